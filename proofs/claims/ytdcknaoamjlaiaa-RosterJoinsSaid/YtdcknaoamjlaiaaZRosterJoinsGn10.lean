import Derived.Test.YtdcknaoamjlaiaaZRosterJoinsGn0
import Derived.Test.YtdcknaoamjlaiaaZRosterJoinsGn2
import Derived.Test.YtdcknaoamjlaiaaZRosterJoinsGn3
import Derived.Test.YtdcknaoamjlaiaaZRosterJoinsGn4
namespace Go.Proofs.Ytdcknaoamjlaiaa.Gn
open Go.RowKit Go.Proofs.YtdcknaoamjlaiaaW.PrintWords Go.Proofs.YtdcknaoamjlaiaaW.PrintLast Go.Proofs.YtdcknaoamjlaiaaW.PrintMore
attribute [local go_sem] max2_int min2_int max_two min_two max_three min_three max_four min_four   -- for this text's walks alone
set_option linter.unusedVariables false
set_option linter.unusedSimpArgs false
mutual
def bellwetherlaw25_RosterJoins.j0 : Nat → ByteArray → ByteArray → Int → Bool → Int → Int → Int → Int → Int → Int → Int → Int → Int → Int → List Int → Option (Bool)
  | 0, _, _, _, _, _, _, _, _, _, _, _, _, _, _, _ => none
  | k + 1, x1, x2, x3, x29, x226000, x226001, x226002, x226003, x226004, x226005, x226006, x226007, x226008, x226009, x226010 => if x29 = true then ((bellwetherlaw25_known.f k).bind fun t226 => (some t226)) else ((roster_Mark.f k x226000 x226001 x226002 x226003 x226004 x226005 x226006 x226007 x226008 x226009 x226010 x1 (([x3] : List Int))).bind fun t230 => ((roster_Both.f k x226000 x226001 x226002 x226003 x226004 x226005 x226006 x226007 x226008 x226009 x226010 x1 x2).bind fun t231 => (bellwetherlaw25_RosterJoins.l0 k x1 x2 x3 t230 t231 0 x226000 x226001 x226002 x226003 x226004 x226005 x226006 x226007 x226008 x226009 x226010)))
def bellwetherlaw25_RosterJoins.l0 : Nat → ByteArray → ByteArray → Int → ByteArray → ByteArray → Int → Int → Int → Int → Int → Int → Int → Int → Int → Int → Int → List Int → Option (Bool)
  | 0, _, _, _, _, _, _, _, _, _, _, _, _, _, _, _, _, _ => none
  | k + 1, x1, x2, x3, x9, x10, x11, x226000, x226001, x226002, x226003, x226004, x226005, x226006, x226007, x226008, x226009, x226010 => if x11 < x226000 then ((roster_Has.f x9 x11).bind fun t232 => ((roster_Has.f x1 x11).bind fun t233 => (if t233 = true then (if (t232 != true) = true then (none) else ((roster_Has.f x10 x11).bind fun t234 => ((roster_Has.f x1 x11).bind fun t235 => (if t235 = true then ((roster_Has.f x2 x11).bind fun t236 => (if (t234 != t236) = true then (none) else (bellwetherlaw25_RosterJoins.l0 k x1 x2 x3 x9 x10 (wrap64 (x11 + 1)) x226000 x226001 x226002 x226003 x226004 x226005 x226006 x226007 x226008 x226009 x226010))) else (if (t234 != false) = true then (none) else (bellwetherlaw25_RosterJoins.l0 k x1 x2 x3 x9 x10 (wrap64 (x11 + 1)) x226000 x226001 x226002 x226003 x226004 x226005 x226006 x226007 x226008 x226009 x226010)))))) else (if t232 = true then (if x11 = x3 then ((roster_Has.f x10 x11).bind fun t237 => ((roster_Has.f x1 x11).bind fun t238 => (if t238 = true then ((roster_Has.f x2 x11).bind fun t239 => (if (t237 != t239) = true then (none) else (bellwetherlaw25_RosterJoins.l0 k x1 x2 x3 x9 x10 (wrap64 (x11 + 1)) x226000 x226001 x226002 x226003 x226004 x226005 x226006 x226007 x226008 x226009 x226010))) else (if (t237 != false) = true then (none) else (bellwetherlaw25_RosterJoins.l0 k x1 x2 x3 x9 x10 (wrap64 (x11 + 1)) x226000 x226001 x226002 x226003 x226004 x226005 x226006 x226007 x226008 x226009 x226010))))) else (none)) else (if x11 = x3 then (none) else ((roster_Has.f x10 x11).bind fun t240 => ((roster_Has.f x1 x11).bind fun t241 => (if t241 = true then ((roster_Has.f x2 x11).bind fun t242 => (if (t240 != t242) = true then (none) else (bellwetherlaw25_RosterJoins.l0 k x1 x2 x3 x9 x10 (wrap64 (x11 + 1)) x226000 x226001 x226002 x226003 x226004 x226005 x226006 x226007 x226008 x226009 x226010))) else (if (t240 != false) = true then (none) else (bellwetherlaw25_RosterJoins.l0 k x1 x2 x3 x9 x10 (wrap64 (x11 + 1)) x226000 x226001 x226002 x226003 x226004 x226005 x226006 x226007 x226008 x226009 x226010)))))))))) else (if (x9.size : Int) = x226000 then ((roster_Both.f k x226000 x226001 x226002 x226003 x226004 x226005 x226006 x226007 x226008 x226009 x226010 x2 x1).bind fun t243 => (if x10.toList = t243.toList then ((roster_Both.f k x226000 x226001 x226002 x226003 x226004 x226005 x226006 x226007 x226008 x226009 x226010 x1 x1).bind fun t244 => ((roster_Mark.f k x226000 x226001 x226002 x226003 x226004 x226005 x226006 x226007 x226008 x226009 x226010 x1 ([] : List Int)).bind fun t245 => (if t244.toList = t245.toList then ((bellwetherlaw25_known.f k).bind fun t246 => (some t246)) else (none)))) else (none))) else (none))
end
def bellwetherlaw25_RosterJoins.f (k : Nat) (a0_0 : Int) (a0_1 : Int) (a0_2 : Int) (a0_3 : Int) (a0_4 : Int) (a0_5 : Int) (a0_6 : Int) (a0_7 : Int) (a0_8 : Int) (a0_9 : Int) (l0_10 : List Int) (a1 : ByteArray) (a2 : ByteArray) (a3 : Int) : Option (Bool) := if a0_0 < 0 then (bellwetherlaw25_RosterJoins.j0 k a1 a2 a3 true a0_0 a0_1 a0_2 a0_3 a0_4 a0_5 a0_6 a0_7 a0_8 a0_9 l0_10) else (if a0_0 > 64 then (bellwetherlaw25_RosterJoins.j0 k a1 a2 a3 true a0_0 a0_1 a0_2 a0_3 a0_4 a0_5 a0_6 a0_7 a0_8 a0_9 l0_10) else (if (a1.size : Int) > 100 then (bellwetherlaw25_RosterJoins.j0 k a1 a2 a3 true a0_0 a0_1 a0_2 a0_3 a0_4 a0_5 a0_6 a0_7 a0_8 a0_9 l0_10) else (bellwetherlaw25_RosterJoins.j0 k a1 a2 a3 (decide ((a2.size : Int) > 100)) a0_0 a0_1 a0_2 a0_3 a0_4 a0_5 a0_6 a0_7 a0_8 a0_9 l0_10)))
def bellwetherlaw25_RosterJoins.T10 : Bool × List (List Nat × List Nat) := (true, [([], []), ([0], [0]), ([], []), ([2], [2]), ([1, 3], [1, 3]), ([4], [4]), ([5], [5]), ([5], [5]), ([5], [5]), ([5], [5]), ([7, 8, 9, 5, 5], [5, 7, 8, 9]), ([6, 10, 5], [5, 6, 10]), ([5, 11], [5, 11]), ([12, 10], [12]), ([13], [13]), ([13], [13]), ([13], [13]), ([14, 15, 16, 13, 13], [13, 14, 15, 16]), ([13], [13]), ([13], [13]), ([18, 19, 17, 13], [13, 18, 19]), ([17, 20, 13], [13, 17, 20]), ([13, 21], [13, 21]), ([22, 20], [22]), ([23, 23], [23]), ([23, 24], [23, 24]), ([25, 24, 0, 1, 2, 3, 4, 5, 6, 7, 8, 9, 10, 11, 12, 13, 14, 15, 16, 17, 18, 19, 20, 21, 22, 23, 24, 25], [25])])
def bellwetherlaw25_RosterJoins.B10 : List Nat := [0, 1, 0, 4, 15, 31, 63, 63, 63, 63, 959, 2047, 4095, 8191, 16383, 16383, 16383, 131071, 16383, 16383, 1048575, 2097151, 4194303, 8388607, 16777215, 33554431, 67108863]
theorem bellwetherlaw25_RosterJoins.tab10 : rtab .any (opsOf Try.f6 10) = bellwetherlaw25_RosterJoins.T10 := by kernel_rfl
theorem bellwetherlaw25_RosterJoins.bits10 : waitsOk bellwetherlaw25_RosterJoins.T10.2 bellwetherlaw25_RosterJoins.B10 = true := by kernel_rfl
set_option maxHeartbeats 8000000 in
set_option maxRecDepth 100000 in
theorem bellwetherlaw25_RosterJoins.calls (k : Nat) (a0_0 : Int) (a0_1 : Int) (a0_2 : Int) (a0_3 : Int) (a0_4 : Int) (a0_5 : Int) (a0_6 : Int) (a0_7 : Int) (a0_8 : Int) (a0_9 : Int) (A0_10 : Option Addr) (c0_10 : Nat) (l0_10 : List Int) (a1 : ByteArray) (a2 : ByteArray) (a3 : Int) (r : Bool) (w : World) (hr0_10 : Kd.C (Kd.int .i64) w A0_10 l0_10.length l0_10) (hc0_10 : l0_10.length ≤ c0_10) (h : bellwetherlaw25_RosterJoins.f k a0_0 a0_1 a0_2 a0_3 a0_4 a0_5 a0_6 a0_7 a0_8 a0_9 l0_10 a1 a2 a3 = some r) :
    Calls Try.prog 6 #[.agg #[.int .i64 a0_0, .int .i64 a0_1, .int .i64 a0_2, .int .i64 a0_3, .int .i64 a0_4, .int .i64 a0_5, .int .i64 a0_6, .int .i64 a0_7, .int .i64 a0_8, .int .i64 a0_9, .slice A0_10 l0_10.length c0_10], .string a1, .string a2, .int .i64 a3] w fun e w' => e = .returned (.bool r) ∧ Below w.heap.size w w' := by
  have hu24 := Try.underlying24
  have HR0_10 := Aside0.mk hr0_10
  have HC0_10 := Aside0.mk hc0_10
  clear hr0_10 hc0_10
  have HB := Aside0.mk (Below.refl w.heap.size w)
  have H : (if a0_0 < 0 then (bellwetherlaw25_RosterJoins.j0 k a1 a2 a3 true a0_0 a0_1 a0_2 a0_3 a0_4 a0_5 a0_6 a0_7 a0_8 a0_9 l0_10) else (if a0_0 > 64 then (bellwetherlaw25_RosterJoins.j0 k a1 a2 a3 true a0_0 a0_1 a0_2 a0_3 a0_4 a0_5 a0_6 a0_7 a0_8 a0_9 l0_10) else (if (a1.size : Int) > 100 then (bellwetherlaw25_RosterJoins.j0 k a1 a2 a3 true a0_0 a0_1 a0_2 a0_3 a0_4 a0_5 a0_6 a0_7 a0_8 a0_9 l0_10) else (bellwetherlaw25_RosterJoins.j0 k a1 a2 a3 (decide ((a2.size : Int) > 100)) a0_0 a0_1 a0_2 a0_3 a0_4 a0_5 a0_6 a0_7 a0_8 a0_9 l0_10)))) = some r := h
  clear h
  have HC5 := Aside0.mk H
  clear H
  go_enter Try.func6, Try.ntmps6
  go_upto_region 1 with (first | ((with_reducible refine gate_dst (N := 4) rfl ?_); (try (refine gate_guard (by rfl) ?_; dsimp only)); refine box_event ?hg (N := 4) ?hd (cs := #[.int .i64 a0_0, .int .i64 a0_1, .int .i64 a0_2, .int .i64 a0_3, .int .i64 a0_4, .int .i64 a0_5, .int .i64 a0_6, .int .i64 a0_7, .int .i64 a0_8, .int .i64 a0_9, .slice A0_10 l0_10.length c0_10]) (t := 24) ?hr ?_; (case hd => rfl); (case hg => rfl); (case hr => first | (go_simp; done) | (go_simp; rfl)); intro gb225 hg w6 hbox hb; have n0_ := Aside0.mk (below_step (by repeat (first | (with_reducible first | exact HB.out | apply below_alloc | apply pw_below_drewN | apply below_drew1) | exact HB.out)) hb); have n1_ := Aside0.mk (hbox); have n2_ := Aside0.mk ((by rw [hg]; exact (below_size (by repeat (first | (with_reducible first | exact HB.out | apply below_alloc | apply pw_below_drewN | apply below_drew1) | exact HB.out))) : w.heap.size ≤ gb225)); have n3_ := Aside0.mk ((by rw [hg]; exact (below_size (by repeat (first | (with_reducible first | exact HB.out | apply below_alloc | apply pw_below_drewN | apply below_drew1) | exact HB.out))) : w.heap.size ≤ gb225)); clear HB; have HB := n0_; have BK225 := n1_; have GW225 := n2_; have GE225 := n3_; clear n0_ n1_ n2_ n3_; clear hb hbox hg))
  (try simp only [Act.put, List.setIfInBounds_toArray, List.set_cons_zero, List.set_cons_succ])
  go_cut [29] (fun v29 wc => ∃ (kq : Nat) (x29_4 : Bool), v29 = .bool x29_4 ∧ Aside0 (bellwetherlaw25_RosterJoins.j0 kq a1 a2 a3 x29_4 a0_0 a0_1 a0_2 a0_3 a0_4 a0_5 a0_6 a0_7 a0_8 a0_9 l0_10 = some r) ∧ Aside0 (kq ≤ k) ∧ Aside0 (wc.heap[gb225]? = some (.cells #[.int .i64 a0_0, .int .i64 a0_1, .int .i64 a0_2, .int .i64 a0_3, .int .i64 a0_4, .int .i64 a0_5, .int .i64 a0_6, .int .i64 a0_7, .int .i64 a0_8, .int .i64 a0_9, (.slice A0_10 l0_10.length c0_10)] 24 (0, 0))) ∧ Aside0 (Below w.heap.size w wc))
  case first =>
    have H := HC5.out
    clear HC5
    by_cases c7 : a0_0 < 0
    · rw [if_pos c7] at H
      have c7b0 : decide (a0_0 < 0) = true := decide_eq_true c7
      clear c7
      (first | rw [c7b0] | (simp only [i64_w, i32_w]; rw [c7b0]) | skip)
      have H' := Aside0.mk H
      clear H
      have hcz8_0 : w6.cell? ⟨gb225, 0, none⟩ = some (.int .i64 a0_0) := (blk_cell BK225.out 0).trans rfl
      have hcz8_1 : w6.cell? ⟨gb225, 1, none⟩ = some (.int .i64 a0_1) := (blk_cell BK225.out 1).trans rfl
      have hcz8_2 : w6.cell? ⟨gb225, 2, none⟩ = some (.int .i64 a0_2) := (blk_cell BK225.out 2).trans rfl
      have hcz8_3 : w6.cell? ⟨gb225, 3, none⟩ = some (.int .i64 a0_3) := (blk_cell BK225.out 3).trans rfl
      have hcz8_4 : w6.cell? ⟨gb225, 4, none⟩ = some (.int .i64 a0_4) := (blk_cell BK225.out 4).trans rfl
      have hcz8_5 : w6.cell? ⟨gb225, 5, none⟩ = some (.int .i64 a0_5) := (blk_cell BK225.out 5).trans rfl
      have hcz8_6 : w6.cell? ⟨gb225, 6, none⟩ = some (.int .i64 a0_6) := (blk_cell BK225.out 6).trans rfl
      have hcz8_7 : w6.cell? ⟨gb225, 7, none⟩ = some (.int .i64 a0_7) := (blk_cell BK225.out 7).trans rfl
      have hcz8_8 : w6.cell? ⟨gb225, 8, none⟩ = some (.int .i64 a0_8) := (blk_cell BK225.out 8).trans rfl
      have hcz8_9 : w6.cell? ⟨gb225, 9, none⟩ = some (.int .i64 a0_9) := (blk_cell BK225.out 9).trans rfl
      have hcz8_10 : w6.cell? ⟨gb225, 10, none⟩ = some (.slice A0_10 l0_10.length c0_10) := (blk_cell BK225.out 10).trans rfl
      have hfz8_0 := blk_frozen BK225.out 0
      have hfz8_1 := blk_frozen BK225.out 1
      have hfz8_2 := blk_frozen BK225.out 2
      have hfz8_3 := blk_frozen BK225.out 3
      have hfz8_4 := blk_frozen BK225.out 4
      have hfz8_5 := blk_frozen BK225.out 5
      have hfz8_6 := blk_frozen BK225.out 6
      have hfz8_7 := blk_frozen BK225.out 7
      have hfz8_8 := blk_frozen BK225.out 8
      have hfz8_9 := blk_frozen BK225.out 9
      have hfz8_10 := blk_frozen BK225.out 10
      go_wp2
      go_meet
      case rel => exact ⟨_, (true), (by first | rfl | (simp; done) | (simp [*]; done)), H', ⟨by first | omega | exact Nat.le_refl _⟩, ⟨by (with_reducible repeat (first | refine blk_drewN ?_ _ | refine blk_drew ?_ | refine blk_alloc ?_ _)); exact BK225.out⟩, ⟨by repeat (first | (with_reducible first | exact HB.out | apply below_alloc | apply pw_below_drewN | apply below_drew1 | refine below_set ?_ GE225.out) | exact HB.out)⟩⟩
    · rw [if_neg c7] at H
      have c7b0 : decide (a0_0 < 0) = false := decide_eq_false c7
      clear c7
      (first | rw [c7b0] | (simp only [i64_w, i32_w]; rw [c7b0]) | skip)
      by_cases c9 : a0_0 > 64
      · rw [if_pos c9] at H
        have c9b0 : decide (64 < a0_0) = true := decide_eq_true c9
        clear c9
        have H' := Aside0.mk H
        clear H
        have hcz10_0 : w6.cell? ⟨gb225, 0, none⟩ = some (.int .i64 a0_0) := (blk_cell BK225.out 0).trans rfl
        have hcz10_1 : w6.cell? ⟨gb225, 1, none⟩ = some (.int .i64 a0_1) := (blk_cell BK225.out 1).trans rfl
        have hcz10_2 : w6.cell? ⟨gb225, 2, none⟩ = some (.int .i64 a0_2) := (blk_cell BK225.out 2).trans rfl
        have hcz10_3 : w6.cell? ⟨gb225, 3, none⟩ = some (.int .i64 a0_3) := (blk_cell BK225.out 3).trans rfl
        have hcz10_4 : w6.cell? ⟨gb225, 4, none⟩ = some (.int .i64 a0_4) := (blk_cell BK225.out 4).trans rfl
        have hcz10_5 : w6.cell? ⟨gb225, 5, none⟩ = some (.int .i64 a0_5) := (blk_cell BK225.out 5).trans rfl
        have hcz10_6 : w6.cell? ⟨gb225, 6, none⟩ = some (.int .i64 a0_6) := (blk_cell BK225.out 6).trans rfl
        have hcz10_7 : w6.cell? ⟨gb225, 7, none⟩ = some (.int .i64 a0_7) := (blk_cell BK225.out 7).trans rfl
        have hcz10_8 : w6.cell? ⟨gb225, 8, none⟩ = some (.int .i64 a0_8) := (blk_cell BK225.out 8).trans rfl
        have hcz10_9 : w6.cell? ⟨gb225, 9, none⟩ = some (.int .i64 a0_9) := (blk_cell BK225.out 9).trans rfl
        have hcz10_10 : w6.cell? ⟨gb225, 10, none⟩ = some (.slice A0_10 l0_10.length c0_10) := (blk_cell BK225.out 10).trans rfl
        have hfz10_0 := blk_frozen BK225.out 0
        have hfz10_1 := blk_frozen BK225.out 1
        have hfz10_2 := blk_frozen BK225.out 2
        have hfz10_3 := blk_frozen BK225.out 3
        have hfz10_4 := blk_frozen BK225.out 4
        have hfz10_5 := blk_frozen BK225.out 5
        have hfz10_6 := blk_frozen BK225.out 6
        have hfz10_7 := blk_frozen BK225.out 7
        have hfz10_8 := blk_frozen BK225.out 8
        have hfz10_9 := blk_frozen BK225.out 9
        have hfz10_10 := blk_frozen BK225.out 10
        go_wp2
        go_meet
        case rel => exact ⟨_, (true), (by first | rfl | (simp; done) | (simp [*]; done)), H', ⟨by first | omega | exact Nat.le_refl _⟩, ⟨by (with_reducible repeat (first | refine blk_drewN ?_ _ | refine blk_drew ?_ | refine blk_alloc ?_ _)); exact BK225.out⟩, ⟨by repeat (first | (with_reducible first | exact HB.out | apply below_alloc | apply pw_below_drewN | apply below_drew1 | refine below_set ?_ GE225.out) | exact HB.out)⟩⟩
      · rw [if_neg c9] at H
        have c9b0 : decide (64 < a0_0) = false := decide_eq_false c9
        clear c9
        by_cases c11 : (a1.size : Int) > 100
        · rw [if_pos c11] at H
          have c11b0 : decide (100 < (a1.size : Int)) = true := decide_eq_true c11
          have c11b1 : decide (100 < a1.size) = true := decide_eq_true (by omega)
          clear c11
          have H' := Aside0.mk H
          clear H
          have hcz12_0 : w6.cell? ⟨gb225, 0, none⟩ = some (.int .i64 a0_0) := (blk_cell BK225.out 0).trans rfl
          have hcz12_1 : w6.cell? ⟨gb225, 1, none⟩ = some (.int .i64 a0_1) := (blk_cell BK225.out 1).trans rfl
          have hcz12_2 : w6.cell? ⟨gb225, 2, none⟩ = some (.int .i64 a0_2) := (blk_cell BK225.out 2).trans rfl
          have hcz12_3 : w6.cell? ⟨gb225, 3, none⟩ = some (.int .i64 a0_3) := (blk_cell BK225.out 3).trans rfl
          have hcz12_4 : w6.cell? ⟨gb225, 4, none⟩ = some (.int .i64 a0_4) := (blk_cell BK225.out 4).trans rfl
          have hcz12_5 : w6.cell? ⟨gb225, 5, none⟩ = some (.int .i64 a0_5) := (blk_cell BK225.out 5).trans rfl
          have hcz12_6 : w6.cell? ⟨gb225, 6, none⟩ = some (.int .i64 a0_6) := (blk_cell BK225.out 6).trans rfl
          have hcz12_7 : w6.cell? ⟨gb225, 7, none⟩ = some (.int .i64 a0_7) := (blk_cell BK225.out 7).trans rfl
          have hcz12_8 : w6.cell? ⟨gb225, 8, none⟩ = some (.int .i64 a0_8) := (blk_cell BK225.out 8).trans rfl
          have hcz12_9 : w6.cell? ⟨gb225, 9, none⟩ = some (.int .i64 a0_9) := (blk_cell BK225.out 9).trans rfl
          have hcz12_10 : w6.cell? ⟨gb225, 10, none⟩ = some (.slice A0_10 l0_10.length c0_10) := (blk_cell BK225.out 10).trans rfl
          have hfz12_0 := blk_frozen BK225.out 0
          have hfz12_1 := blk_frozen BK225.out 1
          have hfz12_2 := blk_frozen BK225.out 2
          have hfz12_3 := blk_frozen BK225.out 3
          have hfz12_4 := blk_frozen BK225.out 4
          have hfz12_5 := blk_frozen BK225.out 5
          have hfz12_6 := blk_frozen BK225.out 6
          have hfz12_7 := blk_frozen BK225.out 7
          have hfz12_8 := blk_frozen BK225.out 8
          have hfz12_9 := blk_frozen BK225.out 9
          have hfz12_10 := blk_frozen BK225.out 10
          go_wp2
          go_meet
          case rel => exact ⟨_, (true), (by first | rfl | (simp; done) | (simp [*]; done)), H', ⟨by first | omega | exact Nat.le_refl _⟩, ⟨by (with_reducible repeat (first | refine blk_drewN ?_ _ | refine blk_drew ?_ | refine blk_alloc ?_ _)); exact BK225.out⟩, ⟨by repeat (first | (with_reducible first | exact HB.out | apply below_alloc | apply pw_below_drewN | apply below_drew1 | refine below_set ?_ GE225.out) | exact HB.out)⟩⟩
        · rw [if_neg c11] at H
          have c11b0 : decide (100 < (a1.size : Int)) = false := decide_eq_false c11
          have c11b1 : decide (100 < a1.size) = false := decide_eq_false (by omega)
          clear c11
          have H' := Aside0.mk H
          clear H
          have hcz13_0 : w6.cell? ⟨gb225, 0, none⟩ = some (.int .i64 a0_0) := (blk_cell BK225.out 0).trans rfl
          have hcz13_1 : w6.cell? ⟨gb225, 1, none⟩ = some (.int .i64 a0_1) := (blk_cell BK225.out 1).trans rfl
          have hcz13_2 : w6.cell? ⟨gb225, 2, none⟩ = some (.int .i64 a0_2) := (blk_cell BK225.out 2).trans rfl
          have hcz13_3 : w6.cell? ⟨gb225, 3, none⟩ = some (.int .i64 a0_3) := (blk_cell BK225.out 3).trans rfl
          have hcz13_4 : w6.cell? ⟨gb225, 4, none⟩ = some (.int .i64 a0_4) := (blk_cell BK225.out 4).trans rfl
          have hcz13_5 : w6.cell? ⟨gb225, 5, none⟩ = some (.int .i64 a0_5) := (blk_cell BK225.out 5).trans rfl
          have hcz13_6 : w6.cell? ⟨gb225, 6, none⟩ = some (.int .i64 a0_6) := (blk_cell BK225.out 6).trans rfl
          have hcz13_7 : w6.cell? ⟨gb225, 7, none⟩ = some (.int .i64 a0_7) := (blk_cell BK225.out 7).trans rfl
          have hcz13_8 : w6.cell? ⟨gb225, 8, none⟩ = some (.int .i64 a0_8) := (blk_cell BK225.out 8).trans rfl
          have hcz13_9 : w6.cell? ⟨gb225, 9, none⟩ = some (.int .i64 a0_9) := (blk_cell BK225.out 9).trans rfl
          have hcz13_10 : w6.cell? ⟨gb225, 10, none⟩ = some (.slice A0_10 l0_10.length c0_10) := (blk_cell BK225.out 10).trans rfl
          have hfz13_0 := blk_frozen BK225.out 0
          have hfz13_1 := blk_frozen BK225.out 1
          have hfz13_2 := blk_frozen BK225.out 2
          have hfz13_3 := blk_frozen BK225.out 3
          have hfz13_4 := blk_frozen BK225.out 4
          have hfz13_5 := blk_frozen BK225.out 5
          have hfz13_6 := blk_frozen BK225.out 6
          have hfz13_7 := blk_frozen BK225.out 7
          have hfz13_8 := blk_frozen BK225.out 8
          have hfz13_9 := blk_frozen BK225.out 9
          have hfz13_10 := blk_frozen BK225.out 10
          go_wp2
          go_meet
          case rel => exact ⟨_, (decide ((a2.size : Int) > 100)), (by first | rfl | (simp; done) | (simp [*]; done)), H', ⟨by first | omega | exact Nat.le_refl _⟩, ⟨by (with_reducible repeat (first | refine blk_drewN ?_ _ | refine blk_drew ?_ | refine blk_alloc ?_ _)); exact BK225.out⟩, ⟨by repeat (first | (with_reducible first | exact HB.out | apply below_alloc | apply pw_below_drewN | apply below_drew1 | refine below_set ?_ GE225.out) | exact HB.out)⟩⟩
  case rest =>
    clear HC5
    try clear c1
    try clear p2
    try clear c6
    try clear c7
    try clear c7b0
    try clear c9
    try clear c9b0
    try clear c11
    try clear c11b0
    try clear c11b1
    try clear hcz10_0
    try clear hcz10_1
    try clear hcz10_10
    try clear hcz10_2
    try clear hcz10_3
    try clear hcz10_4
    try clear hcz10_5
    try clear hcz10_6
    try clear hcz10_7
    try clear hcz10_8
    try clear hcz10_9
    try clear hcz12_0
    try clear hcz12_1
    try clear hcz12_10
    try clear hcz12_2
    try clear hcz12_3
    try clear hcz12_4
    try clear hcz12_5
    try clear hcz12_6
    try clear hcz12_7
    try clear hcz12_8
    try clear hcz12_9
    try clear hcz13_0
    try clear hcz13_1
    try clear hcz13_10
    try clear hcz13_2
    try clear hcz13_3
    try clear hcz13_4
    try clear hcz13_5
    try clear hcz13_6
    try clear hcz13_7
    try clear hcz13_8
    try clear hcz13_9
    try clear hcz8_0
    try clear hcz8_1
    try clear hcz8_10
    try clear hcz8_2
    try clear hcz8_3
    try clear hcz8_4
    try clear hcz8_5
    try clear hcz8_6
    try clear hcz8_7
    try clear hcz8_8
    try clear hcz8_9
    try clear hfz10_0
    try clear hfz10_1
    try clear hfz10_10
    try clear hfz10_2
    try clear hfz10_3
    try clear hfz10_4
    try clear hfz10_5
    try clear hfz10_6
    try clear hfz10_7
    try clear hfz10_8
    try clear hfz10_9
    try clear hfz12_0
    try clear hfz12_1
    try clear hfz12_10
    try clear hfz12_2
    try clear hfz12_3
    try clear hfz12_4
    try clear hfz12_5
    try clear hfz12_6
    try clear hfz12_7
    try clear hfz12_8
    try clear hfz12_9
    try clear hfz13_0
    try clear hfz13_1
    try clear hfz13_10
    try clear hfz13_2
    try clear hfz13_3
    try clear hfz13_4
    try clear hfz13_5
    try clear hfz13_6
    try clear hfz13_7
    try clear hfz13_8
    try clear hfz13_9
    try clear hfz8_0
    try clear hfz8_1
    try clear hfz8_10
    try clear hfz8_2
    try clear hfz8_3
    try clear hfz8_4
    try clear hfz8_5
    try clear hfz8_6
    try clear hfz8_7
    try clear hfz8_8
    try clear hfz8_9
    obtain ⟨kq, x29_4, rfl, HA, HJ4, BK225, HB⟩ := hcut
    cases kq with
    | zero => exact absurd HA.out (by simp [bellwetherlaw25_RosterJoins.j0])
    | succ kj4 =>
      have H := HA.out
      clear HA
      simp only [bellwetherlaw25_RosterJoins.j0] at H
      by_cases c14 : x29_4 = true
      · subst c14
        have H1 : ((bellwetherlaw25_known.f kj4).bind fun t226 => (some t226)) = some r := by rw [if_pos rfl] at H; exact H
        clear H
        have H := H1
        clear H1
        replace H := Option.bind_eq_some_iff.mp H
        obtain ⟨t226, A150, H⟩ := H
        replace H : (some t226) = some r := H
        have A15 := Aside0.mk A150
        clear A150
        obtain rfl := Option.some.inj H
        go_wp2_with (first | ((with_reducible refine gate_callee (f := 18) rfl ?_); refine goesL_ (some 30) rfl rfl Try.func18 (by kernel_rfl) rfl #[] rfl (by (try simp only [List.map_toArray, List.map_cons, List.map_nil]); first | done | rfl | (simp only [List.length_drop, List.length_take]; rfl)) ?_; (with_reducible refine (bellwetherlaw25_known.calls kj4  t226 _ A15.out).mono ?_); rintro e w16 ⟨rfl, hb⟩; refine ⟨_, rfl, ?_⟩; have n0_ := Aside0.mk (blk_below (g := gb225) (o := .cells #[.int .i64 a0_0, .int .i64 a0_1, .int .i64 a0_2, .int .i64 a0_3, .int .i64 a0_4, .int .i64 a0_5, .int .i64 a0_6, .int .i64 a0_7, .int .i64 a0_8, .int .i64 a0_9, .slice A0_10 l0_10.length c0_10] 24 (0, 0)) (by (with_reducible repeat (first | refine blk_drewN ?_ _ | refine blk_drew ?_ | refine blk_alloc ?_ _)); exact BK225.out) hb); have n1_ := Aside0.mk (below_step (by repeat (first | (with_reducible first | exact HB.out | apply below_alloc | apply pw_below_drewN | apply below_drew1 | refine below_set ?_ GE225.out) | exact HB.out)) hb); clear BK225; clear HB; have BK225 := n0_; have HB := n1_; clear n0_ n1_; (try clear hb); (try clear hb2); (try clear hk); (try clear hi)))
        go_ret
        exact ⟨by first | rfl | (simp [errW_none, errW_some] <;> rfl) | (simp [*, errW_none, errW_some] <;> rfl), by repeat (first | (with_reducible first | exact HB.out | apply below_alloc | apply pw_below_drewN | apply below_drew1 | refine below_set ?_ GE225.out) | exact HB.out)⟩
      · replace c14 := Bool.eq_false_iff.mpr c14
        subst c14
        have H1 : ((roster_Mark.f kj4 a0_0 a0_1 a0_2 a0_3 a0_4 a0_5 a0_6 a0_7 a0_8 a0_9 l0_10 a1 (([a3] : List Int))).bind fun t230 => ((roster_Both.f kj4 a0_0 a0_1 a0_2 a0_3 a0_4 a0_5 a0_6 a0_7 a0_8 a0_9 l0_10 a1 a2).bind fun t231 => (bellwetherlaw25_RosterJoins.l0 kj4 a1 a2 a3 t230 t231 0 a0_0 a0_1 a0_2 a0_3 a0_4 a0_5 a0_6 a0_7 a0_8 a0_9 l0_10))) = some r := by rw [if_neg (show ¬ (false = true) by decide)] at H; exact H
        clear H
        have H := H1
        clear H1
        obtain ⟨y227, hy227⟩ : ∃ y_ : List Int, y_ = (([a3] : List Int)) := ⟨_, rfl⟩
        replace H : ((roster_Mark.f kj4 a0_0 a0_1 a0_2 a0_3 a0_4 a0_5 a0_6 a0_7 a0_8 a0_9 l0_10 a1 y227).bind fun t230 => ((roster_Both.f kj4 a0_0 a0_1 a0_2 a0_3 a0_4 a0_5 a0_6 a0_7 a0_8 a0_9 l0_10 a1 a2).bind fun t231 => (bellwetherlaw25_RosterJoins.l0 kj4 a1 a2 a3 t230 t231 0 a0_0 a0_1 a0_2 a0_3 a0_4 a0_5 a0_6 a0_7 a0_8 a0_9 l0_10))) = some r := by first | (rw [hy227]; with_reducible exact H) | (have H2_ := (Option.bind_some _ _).symm.trans H; rw [hy227]; with_reducible exact H2_) | (have H2_ := (Option.bind_some _ _).symm.trans H; with_reducible exact H2_) | with_reducible exact H | (rw [hy227]; exact H) | exact H
        have Ny227 := Aside0.mk hy227
        clear hy227
        replace H := Option.bind_eq_some_iff.mp H
        obtain ⟨t230, A170, H⟩ := H
        replace H : ((roster_Both.f kj4 a0_0 a0_1 a0_2 a0_3 a0_4 a0_5 a0_6 a0_7 a0_8 a0_9 l0_10 a1 a2).bind fun t231 => (bellwetherlaw25_RosterJoins.l0 kj4 a1 a2 a3 t230 t231 0 a0_0 a0_1 a0_2 a0_3 a0_4 a0_5 a0_6 a0_7 a0_8 a0_9 l0_10)) = some r := H
        have A17 := Aside0.mk A170
        clear A170
        replace H := Option.bind_eq_some_iff.mp H
        obtain ⟨t231, A180, H⟩ := H
        replace H : (bellwetherlaw25_RosterJoins.l0 kj4 a1 a2 a3 t230 t231 0 a0_0 a0_1 a0_2 a0_3 a0_4 a0_5 a0_6 a0_7 a0_8 a0_9 l0_10) = some r := H
        have A18 := Aside0.mk A180
        clear A180
        have H' := Aside0.mk H
        clear H
        have hcz19_0 : wc.cell? ⟨gb225, 0, none⟩ = some (.int .i64 a0_0) := (blk_cell BK225.out 0).trans rfl
        have hcz19_1 : wc.cell? ⟨gb225, 1, none⟩ = some (.int .i64 a0_1) := (blk_cell BK225.out 1).trans rfl
        have hcz19_2 : wc.cell? ⟨gb225, 2, none⟩ = some (.int .i64 a0_2) := (blk_cell BK225.out 2).trans rfl
        have hcz19_3 : wc.cell? ⟨gb225, 3, none⟩ = some (.int .i64 a0_3) := (blk_cell BK225.out 3).trans rfl
        have hcz19_4 : wc.cell? ⟨gb225, 4, none⟩ = some (.int .i64 a0_4) := (blk_cell BK225.out 4).trans rfl
        have hcz19_5 : wc.cell? ⟨gb225, 5, none⟩ = some (.int .i64 a0_5) := (blk_cell BK225.out 5).trans rfl
        have hcz19_6 : wc.cell? ⟨gb225, 6, none⟩ = some (.int .i64 a0_6) := (blk_cell BK225.out 6).trans rfl
        have hcz19_7 : wc.cell? ⟨gb225, 7, none⟩ = some (.int .i64 a0_7) := (blk_cell BK225.out 7).trans rfl
        have hcz19_8 : wc.cell? ⟨gb225, 8, none⟩ = some (.int .i64 a0_8) := (blk_cell BK225.out 8).trans rfl
        have hcz19_9 : wc.cell? ⟨gb225, 9, none⟩ = some (.int .i64 a0_9) := (blk_cell BK225.out 9).trans rfl
        have hcz19_10 : wc.cell? ⟨gb225, 10, none⟩ = some (.slice A0_10 l0_10.length c0_10) := (blk_cell BK225.out 10).trans rfl
        have hfz19_0 := blk_frozen BK225.out 0
        have hfz19_1 := blk_frozen BK225.out 1
        have hfz19_2 := blk_frozen BK225.out 2
        have hfz19_3 := blk_frozen BK225.out 3
        have hfz19_4 := blk_frozen BK225.out 4
        have hfz19_5 := blk_frozen BK225.out 5
        have hfz19_6 := blk_frozen BK225.out 6
        have hfz19_7 := blk_frozen BK225.out 7
        have hfz19_8 := blk_frozen BK225.out 8
        have hfz19_9 := blk_frozen BK225.out 9
        have hfz19_10 := blk_frozen BK225.out 10
        go_wp2_with (first | ((with_reducible refine gate_dst (N := 34) rfl ?_); (try (refine gate_guard (by rfl) ?_; dsimp only)); refine Kd.R_lit (Kd.int .i64) _ 3 ?hg (N := 34) ?hd (xs := ([a3] : List Int)) (inner := [.int .i64 a3]) (ok := fun _ => True) (okp := fun _ => True) ?hr ?hp (fun _ hk => hk) trivial (Below.refl _ _) (Nat.le_refl _) (by simp) ?_; (case hd => rfl); (case hg => rfl); (case hr => first | (go_simp; done) | (go_simp; rfl)); (case hp => exact (Reps.one (show Kd.M (Kd.int .i64) _ _ _ a3 [.int .i64 a3] from rfl) (Reps.none _ _))); intro v228 w20 ho21 hb hg_ hnew_; clear hg_ hnew_; (first | rw [← Ny227.out] at ho21 | (simp only [Int.reduceToNat] at ho21; rw [← Ny227.out] at ho21)); have n0_ := Aside0.mk (Kd.R_lower ho21 (below_size (by repeat (first | (with_reducible first | exact HB.out | apply below_alloc | apply pw_below_drewN | apply below_drew1 | refine below_set ?_ GE225.out) | exact HB.out)))); have n1_ := Aside0.mk (blk_below (g := gb225) (o := .cells #[.int .i64 a0_0, .int .i64 a0_1, .int .i64 a0_2, .int .i64 a0_3, .int .i64 a0_4, .int .i64 a0_5, .int .i64 a0_6, .int .i64 a0_7, .int .i64 a0_8, .int .i64 a0_9, .slice A0_10 l0_10.length c0_10] 24 (0, 0)) (by (with_reducible repeat (first | refine blk_drewN ?_ _ | refine blk_drew ?_ | refine blk_alloc ?_ _)); exact BK225.out) hb); have n2_ := Aside0.mk (below_step (by repeat (first | (with_reducible first | exact HB.out | apply below_alloc | apply pw_below_drewN | apply below_drew1 | refine below_set ?_ GE225.out) | exact HB.out)) hb); clear BK225; clear HB; have HO229 := n0_; have BK225 := n1_; have HB := n2_; clear n0_ n1_ n2_; clear hb ho21; obtain ⟨Ao22, co22, eo22⟩ := Kd.R_slice HO229.out; subst eo22) | ((with_reducible refine gate_callee (f := 21) rfl ?_); refine goesL_ (some 35) rfl rfl Try.func21 (by kernel_rfl) rfl #[.agg #[.int .i64 a0_0, .int .i64 a0_1, .int .i64 a0_2, .int .i64 a0_3, .int .i64 a0_4, .int .i64 a0_5, .int .i64 a0_6, .int .i64 a0_7, .int .i64 a0_8, .int .i64 a0_9, .slice A0_10 l0_10.length c0_10], .string a1, .slice Ao22 y227.length co22] rfl (by (try simp only [List.map_toArray, List.map_cons, List.map_nil]); first | done | rfl | (simp only [List.length_drop, List.length_take]; rfl)) ?_; (with_reducible refine (roster_Mark.calls kj4 a0_0 a0_1 a0_2 a0_3 a0_4 a0_5 a0_6 a0_7 a0_8 a0_9 _ _ l0_10 a1 _ _ y227 t230 _ ?side1 ?side2 ?side3 ?side4 A17.out).mono ?_); (case side1 => repeat (first | exact (Kd.C_below HR0_10.out HB.out) | (with_reducible refine Kd.C_alloc ?_ _) | (with_reducible refine Kd.C_drewN ?_ _) | (with_reducible refine Kd.C_drew ?_))); (case side2 => exact HC0_10.out); (case side3 => repeat (first | exact (Kd.R_reads' HO229.out).2.2 | (with_reducible refine Kd.C_alloc ?_ _) | (with_reducible refine Kd.C_drewN ?_ _) | (with_reducible refine Kd.C_drew ?_))); (case side4 => exact (Kd.R_reads' HO229.out).2.1); rintro e w23 ⟨rfl, hb⟩; refine ⟨_, rfl, ?_⟩; have n0_ := Aside0.mk (Kd.R_below (by (with_reducible repeat (first | apply Kd.R_alloc | apply Kd.R_drewN | apply Kd.R_drew)); exact HO229.out) hb); have n1_ := Aside0.mk (blk_below (g := gb225) (o := .cells #[.int .i64 a0_0, .int .i64 a0_1, .int .i64 a0_2, .int .i64 a0_3, .int .i64 a0_4, .int .i64 a0_5, .int .i64 a0_6, .int .i64 a0_7, .int .i64 a0_8, .int .i64 a0_9, .slice A0_10 l0_10.length c0_10] 24 (0, 0)) (by (with_reducible repeat (first | refine blk_drewN ?_ _ | refine blk_drew ?_ | refine blk_alloc ?_ _)); exact BK225.out) hb); have n2_ := Aside0.mk (below_step (by repeat (first | (with_reducible first | exact HB.out | apply below_alloc | apply pw_below_drewN | apply below_drew1 | refine below_set ?_ GE225.out) | exact HB.out)) hb); clear HO229; clear BK225; clear HB; have HO229 := n0_; have BK225 := n1_; have HB := n2_; clear n0_ n1_ n2_; (try clear hb); (try clear hb2); (try clear hk); (try clear hi); obtain ⟨hcz24_0, hcz24_1, hcz24_2, hcz24_3, hcz24_4, hcz24_5, hcz24_6, hcz24_7, hcz24_8, hcz24_9, hcz24_10⟩ := cells_11 BK225.out; obtain ⟨hfz24_0, hfz24_1, hfz24_2, hfz24_3, hfz24_4, hfz24_5, hfz24_6, hfz24_7, hfz24_8, hfz24_9, hfz24_10⟩ := frozen_11 BK225.out) | ((with_reducible refine gate_callee (f := 23) rfl ?_); refine goesL_ (some 39) rfl rfl Try.func23 (by kernel_rfl) rfl #[.agg #[.int .i64 a0_0, .int .i64 a0_1, .int .i64 a0_2, .int .i64 a0_3, .int .i64 a0_4, .int .i64 a0_5, .int .i64 a0_6, .int .i64 a0_7, .int .i64 a0_8, .int .i64 a0_9, .slice A0_10 l0_10.length c0_10], .string a1, .string a2] rfl (by (try simp only [List.map_toArray, List.map_cons, List.map_nil]); first | done | rfl | (simp only [List.length_drop, List.length_take]; rfl)) ?_; (with_reducible refine (roster_Both.calls kj4 a0_0 a0_1 a0_2 a0_3 a0_4 a0_5 a0_6 a0_7 a0_8 a0_9 _ _ l0_10 a1 a2 t231 _ ?side1 ?side2 A18.out).mono ?_); (case side1 => repeat (first | exact (Kd.C_below HR0_10.out HB.out) | (with_reducible refine Kd.C_alloc ?_ _) | (with_reducible refine Kd.C_drewN ?_ _) | (with_reducible refine Kd.C_drew ?_))); (case side2 => exact HC0_10.out); rintro e w25 ⟨rfl, hb⟩; refine ⟨_, rfl, ?_⟩; have n0_ := Aside0.mk (Kd.R_below (by (with_reducible repeat (first | apply Kd.R_alloc | apply Kd.R_drewN | apply Kd.R_drew)); exact HO229.out) hb); have n1_ := Aside0.mk (blk_below (g := gb225) (o := .cells #[.int .i64 a0_0, .int .i64 a0_1, .int .i64 a0_2, .int .i64 a0_3, .int .i64 a0_4, .int .i64 a0_5, .int .i64 a0_6, .int .i64 a0_7, .int .i64 a0_8, .int .i64 a0_9, .slice A0_10 l0_10.length c0_10] 24 (0, 0)) (by (with_reducible repeat (first | refine blk_drewN ?_ _ | refine blk_drew ?_ | refine blk_alloc ?_ _)); exact BK225.out) hb); have n2_ := Aside0.mk (below_step (by repeat (first | (with_reducible first | exact HB.out | apply below_alloc | apply pw_below_drewN | apply below_drew1 | refine below_set ?_ GE225.out) | exact HB.out)) hb); clear HO229; clear BK225; clear HB; have HO229 := n0_; have BK225 := n1_; have HB := n2_; clear n0_ n1_ n2_; (try clear hb); (try clear hb2); (try clear hk); (try clear hi)))
        go_loopg [11] kj4 (fun kq v11 w' => ∃ (x11_2 : Int), v11 = .int .i64 x11_2 ∧ Aside0 (bellwetherlaw25_RosterJoins.l0 kq a1 a2 a3 t230 t231 x11_2 a0_0 a0_1 a0_2 a0_3 a0_4 a0_5 a0_6 a0_7 a0_8 a0_9 l0_10 = some r) ∧ Aside0 (kq ≤ kj4) ∧ Aside0 (w'.heap[gb225]? = some (.cells #[.int .i64 a0_0, .int .i64 a0_1, .int .i64 a0_2, .int .i64 a0_3, .int .i64 a0_4, .int .i64 a0_5, .int .i64 a0_6, .int .i64 a0_7, .int .i64 a0_8, .int .i64 a0_9, (.slice A0_10 l0_10.length c0_10)] 24 (0, 0))) ∧ Aside0 (Below w.heap.size w w'))
        case atStart => exact ⟨(0), (by first | rfl | (simp; done) | (simp [*]; done)), H', ⟨Nat.le_refl _⟩, ⟨by (with_reducible repeat (first | refine blk_drewN ?_ _ | refine blk_drew ?_ | refine blk_alloc ?_ _)); exact BK225.out⟩, ⟨by repeat (first | (with_reducible first | exact HB.out | apply below_alloc | apply pw_below_drewN | apply below_drew1 | refine below_set ?_ GE225.out) | exact HB.out)⟩⟩
        case round =>
          clear H'
          try clear c1
          try clear c2
          try clear p2
          try clear c6
          try clear c7
          try clear c7b0
          try clear c9
          try clear c9b0
          try clear c11
          try clear c11b0
          try clear c11b1
          try clear c14
          try clear c18
          try clear c21
          try clear c23
          try clear hcz10_0
          try clear hcz10_1
          try clear hcz10_10
          try clear hcz10_2
          try clear hcz10_3
          try clear hcz10_4
          try clear hcz10_5
          try clear hcz10_6
          try clear hcz10_7
          try clear hcz10_8
          try clear hcz10_9
          try clear hcz12_0
          try clear hcz12_1
          try clear hcz12_10
          try clear hcz12_2
          try clear hcz12_3
          try clear hcz12_4
          try clear hcz12_5
          try clear hcz12_6
          try clear hcz12_7
          try clear hcz12_8
          try clear hcz12_9
          try clear hcz13_0
          try clear hcz13_1
          try clear hcz13_10
          try clear hcz13_2
          try clear hcz13_3
          try clear hcz13_4
          try clear hcz13_5
          try clear hcz13_6
          try clear hcz13_7
          try clear hcz13_8
          try clear hcz13_9
          try clear hcz19_0
          try clear hcz19_1
          try clear hcz19_10
          try clear hcz19_2
          try clear hcz19_3
          try clear hcz19_4
          try clear hcz19_5
          try clear hcz19_6
          try clear hcz19_7
          try clear hcz19_8
          try clear hcz19_9
          try clear hcz24_0
          try clear hcz24_1
          try clear hcz24_10
          try clear hcz24_2
          try clear hcz24_3
          try clear hcz24_4
          try clear hcz24_5
          try clear hcz24_6
          try clear hcz24_7
          try clear hcz24_8
          try clear hcz24_9
          try clear hcz8_0
          try clear hcz8_1
          try clear hcz8_10
          try clear hcz8_2
          try clear hcz8_3
          try clear hcz8_4
          try clear hcz8_5
          try clear hcz8_6
          try clear hcz8_7
          try clear hcz8_8
          try clear hcz8_9
          try clear hfz10_0
          try clear hfz10_1
          try clear hfz10_10
          try clear hfz10_2
          try clear hfz10_3
          try clear hfz10_4
          try clear hfz10_5
          try clear hfz10_6
          try clear hfz10_7
          try clear hfz10_8
          try clear hfz10_9
          try clear hfz12_0
          try clear hfz12_1
          try clear hfz12_10
          try clear hfz12_2
          try clear hfz12_3
          try clear hfz12_4
          try clear hfz12_5
          try clear hfz12_6
          try clear hfz12_7
          try clear hfz12_8
          try clear hfz12_9
          try clear hfz13_0
          try clear hfz13_1
          try clear hfz13_10
          try clear hfz13_2
          try clear hfz13_3
          try clear hfz13_4
          try clear hfz13_5
          try clear hfz13_6
          try clear hfz13_7
          try clear hfz13_8
          try clear hfz13_9
          try clear hfz19_0
          try clear hfz19_1
          try clear hfz19_10
          try clear hfz19_2
          try clear hfz19_3
          try clear hfz19_4
          try clear hfz19_5
          try clear hfz19_6
          try clear hfz19_7
          try clear hfz19_8
          try clear hfz19_9
          try clear hfz24_0
          try clear hfz24_1
          try clear hfz24_10
          try clear hfz24_2
          try clear hfz24_3
          try clear hfz24_4
          try clear hfz24_5
          try clear hfz24_6
          try clear hfz24_7
          try clear hfz24_8
          try clear hfz24_9
          try clear hfz8_0
          try clear hfz8_1
          try clear hfz8_10
          try clear hfz8_2
          try clear hfz8_3
          try clear hfz8_4
          try clear hfz8_5
          try clear hfz8_6
          try clear hfz8_7
          try clear hfz8_8
          try clear hfz8_9
          try clear p2
          obtain ⟨x11_2, rfl, HA, HK2, BK225, HB⟩ := hrel
          cases gk with
          | zero => exact absurd HA.out (by simp [bellwetherlaw25_RosterJoins.l0])
          | succ k2 =>
            have H := HA.out
            clear HA
            simp only [bellwetherlaw25_RosterJoins.l0] at H
            by_cases c26 : x11_2 < a0_0
            · rw [if_pos c26] at H
              have c26b0 : decide (x11_2 < a0_0) = true := decide_eq_true c26
              clear c26
              replace H := Option.bind_eq_some_iff.mp H
              obtain ⟨t232, A270, H⟩ := H
              replace H : ((roster_Has.f a1 x11_2).bind fun t233 => (if t233 = true then (if (t232 != true) = true then (none) else ((roster_Has.f t231 x11_2).bind fun t234 => ((roster_Has.f a1 x11_2).bind fun t235 => (if t235 = true then ((roster_Has.f a2 x11_2).bind fun t236 => (if (t234 != t236) = true then (none) else (bellwetherlaw25_RosterJoins.l0 k2 a1 a2 a3 t230 t231 (wrap64 (x11_2 + 1)) a0_0 a0_1 a0_2 a0_3 a0_4 a0_5 a0_6 a0_7 a0_8 a0_9 l0_10))) else (if (t234 != false) = true then (none) else (bellwetherlaw25_RosterJoins.l0 k2 a1 a2 a3 t230 t231 (wrap64 (x11_2 + 1)) a0_0 a0_1 a0_2 a0_3 a0_4 a0_5 a0_6 a0_7 a0_8 a0_9 l0_10)))))) else (if t232 = true then (if x11_2 = a3 then ((roster_Has.f t231 x11_2).bind fun t237 => ((roster_Has.f a1 x11_2).bind fun t238 => (if t238 = true then ((roster_Has.f a2 x11_2).bind fun t239 => (if (t237 != t239) = true then (none) else (bellwetherlaw25_RosterJoins.l0 k2 a1 a2 a3 t230 t231 (wrap64 (x11_2 + 1)) a0_0 a0_1 a0_2 a0_3 a0_4 a0_5 a0_6 a0_7 a0_8 a0_9 l0_10))) else (if (t237 != false) = true then (none) else (bellwetherlaw25_RosterJoins.l0 k2 a1 a2 a3 t230 t231 (wrap64 (x11_2 + 1)) a0_0 a0_1 a0_2 a0_3 a0_4 a0_5 a0_6 a0_7 a0_8 a0_9 l0_10))))) else (none)) else (if x11_2 = a3 then (none) else ((roster_Has.f t231 x11_2).bind fun t240 => ((roster_Has.f a1 x11_2).bind fun t241 => (if t241 = true then ((roster_Has.f a2 x11_2).bind fun t242 => (if (t240 != t242) = true then (none) else (bellwetherlaw25_RosterJoins.l0 k2 a1 a2 a3 t230 t231 (wrap64 (x11_2 + 1)) a0_0 a0_1 a0_2 a0_3 a0_4 a0_5 a0_6 a0_7 a0_8 a0_9 l0_10))) else (if (t240 != false) = true then (none) else (bellwetherlaw25_RosterJoins.l0 k2 a1 a2 a3 t230 t231 (wrap64 (x11_2 + 1)) a0_0 a0_1 a0_2 a0_3 a0_4 a0_5 a0_6 a0_7 a0_8 a0_9 l0_10))))))))) = some r := H
              have A27 := Aside0.mk A270
              clear A270
              replace H := Option.bind_eq_some_iff.mp H
              obtain ⟨t233, A280, H⟩ := H
              replace H : (if t233 = true then (if (t232 != true) = true then (none) else ((roster_Has.f t231 x11_2).bind fun t234 => ((roster_Has.f a1 x11_2).bind fun t235 => (if t235 = true then ((roster_Has.f a2 x11_2).bind fun t236 => (if (t234 != t236) = true then (none) else (bellwetherlaw25_RosterJoins.l0 k2 a1 a2 a3 t230 t231 (wrap64 (x11_2 + 1)) a0_0 a0_1 a0_2 a0_3 a0_4 a0_5 a0_6 a0_7 a0_8 a0_9 l0_10))) else (if (t234 != false) = true then (none) else (bellwetherlaw25_RosterJoins.l0 k2 a1 a2 a3 t230 t231 (wrap64 (x11_2 + 1)) a0_0 a0_1 a0_2 a0_3 a0_4 a0_5 a0_6 a0_7 a0_8 a0_9 l0_10)))))) else (if t232 = true then (if x11_2 = a3 then ((roster_Has.f t231 x11_2).bind fun t237 => ((roster_Has.f a1 x11_2).bind fun t238 => (if t238 = true then ((roster_Has.f a2 x11_2).bind fun t239 => (if (t237 != t239) = true then (none) else (bellwetherlaw25_RosterJoins.l0 k2 a1 a2 a3 t230 t231 (wrap64 (x11_2 + 1)) a0_0 a0_1 a0_2 a0_3 a0_4 a0_5 a0_6 a0_7 a0_8 a0_9 l0_10))) else (if (t237 != false) = true then (none) else (bellwetherlaw25_RosterJoins.l0 k2 a1 a2 a3 t230 t231 (wrap64 (x11_2 + 1)) a0_0 a0_1 a0_2 a0_3 a0_4 a0_5 a0_6 a0_7 a0_8 a0_9 l0_10))))) else (none)) else (if x11_2 = a3 then (none) else ((roster_Has.f t231 x11_2).bind fun t240 => ((roster_Has.f a1 x11_2).bind fun t241 => (if t241 = true then ((roster_Has.f a2 x11_2).bind fun t242 => (if (t240 != t242) = true then (none) else (bellwetherlaw25_RosterJoins.l0 k2 a1 a2 a3 t230 t231 (wrap64 (x11_2 + 1)) a0_0 a0_1 a0_2 a0_3 a0_4 a0_5 a0_6 a0_7 a0_8 a0_9 l0_10))) else (if (t240 != false) = true then (none) else (bellwetherlaw25_RosterJoins.l0 k2 a1 a2 a3 t230 t231 (wrap64 (x11_2 + 1)) a0_0 a0_1 a0_2 a0_3 a0_4 a0_5 a0_6 a0_7 a0_8 a0_9 l0_10)))))))) = some r := H
              have A28 := Aside0.mk A280
              clear A280
              by_cases c29 : t233 = true
              · subst c29
                have H1 : (if (t232 != true) = true then (none) else ((roster_Has.f t231 x11_2).bind fun t234 => ((roster_Has.f a1 x11_2).bind fun t235 => (if t235 = true then ((roster_Has.f a2 x11_2).bind fun t236 => (if (t234 != t236) = true then (none) else (bellwetherlaw25_RosterJoins.l0 k2 a1 a2 a3 t230 t231 (wrap64 (x11_2 + 1)) a0_0 a0_1 a0_2 a0_3 a0_4 a0_5 a0_6 a0_7 a0_8 a0_9 l0_10))) else (if (t234 != false) = true then (none) else (bellwetherlaw25_RosterJoins.l0 k2 a1 a2 a3 t230 t231 (wrap64 (x11_2 + 1)) a0_0 a0_1 a0_2 a0_3 a0_4 a0_5 a0_6 a0_7 a0_8 a0_9 l0_10)))))) = some r := by rw [if_pos rfl] at H; exact H
                clear H
                have H := H1
                clear H1
                by_cases c30 : (t232 != true) = true
                · rw [if_pos c30] at H
                  exact absurd H (by simp)
                · rw [if_neg c30] at H
                  have c30b0 : (t232 != true) = false := by simpa using c30
                  (try (have c30b1 : decide (t232 = true) = true := by simpa using c30))
                  (try (have c30b2 : (t232 == true) = true := by simpa using c30))
                  clear c30
                  replace H := Option.bind_eq_some_iff.mp H
                  obtain ⟨t234, A310, H⟩ := H
                  replace H : ((roster_Has.f a1 x11_2).bind fun t235 => (if t235 = true then ((roster_Has.f a2 x11_2).bind fun t236 => (if (t234 != t236) = true then (none) else (bellwetherlaw25_RosterJoins.l0 k2 a1 a2 a3 t230 t231 (wrap64 (x11_2 + 1)) a0_0 a0_1 a0_2 a0_3 a0_4 a0_5 a0_6 a0_7 a0_8 a0_9 l0_10))) else (if (t234 != false) = true then (none) else (bellwetherlaw25_RosterJoins.l0 k2 a1 a2 a3 t230 t231 (wrap64 (x11_2 + 1)) a0_0 a0_1 a0_2 a0_3 a0_4 a0_5 a0_6 a0_7 a0_8 a0_9 l0_10)))) = some r := H
                  have A31 := Aside0.mk A310
                  clear A310
                  replace H := Option.bind_eq_some_iff.mp H
                  obtain ⟨t235, A320, H⟩ := H
                  replace H : (if t235 = true then ((roster_Has.f a2 x11_2).bind fun t236 => (if (t234 != t236) = true then (none) else (bellwetherlaw25_RosterJoins.l0 k2 a1 a2 a3 t230 t231 (wrap64 (x11_2 + 1)) a0_0 a0_1 a0_2 a0_3 a0_4 a0_5 a0_6 a0_7 a0_8 a0_9 l0_10))) else (if (t234 != false) = true then (none) else (bellwetherlaw25_RosterJoins.l0 k2 a1 a2 a3 t230 t231 (wrap64 (x11_2 + 1)) a0_0 a0_1 a0_2 a0_3 a0_4 a0_5 a0_6 a0_7 a0_8 a0_9 l0_10))) = some r := H
                  have A32 := Aside0.mk A320
                  clear A320
                  by_cases c33 : t235 = true
                  · subst c33
                    have H1 : ((roster_Has.f a2 x11_2).bind fun t236 => (if (t234 != t236) = true then (none) else (bellwetherlaw25_RosterJoins.l0 k2 a1 a2 a3 t230 t231 (wrap64 (x11_2 + 1)) a0_0 a0_1 a0_2 a0_3 a0_4 a0_5 a0_6 a0_7 a0_8 a0_9 l0_10))) = some r := by rw [if_pos rfl] at H; exact H
                    clear H
                    have H := H1
                    clear H1
                    replace H := Option.bind_eq_some_iff.mp H
                    obtain ⟨t236, A340, H⟩ := H
                    replace H : (if (t234 != t236) = true then (none) else (bellwetherlaw25_RosterJoins.l0 k2 a1 a2 a3 t230 t231 (wrap64 (x11_2 + 1)) a0_0 a0_1 a0_2 a0_3 a0_4 a0_5 a0_6 a0_7 a0_8 a0_9 l0_10)) = some r := H
                    have A34 := Aside0.mk A340
                    clear A340
                    by_cases c35 : (t234 != t236) = true
                    · rw [if_pos c35] at H
                      exact absurd H (by simp)
                    · rw [if_neg c35] at H
                      have c35b0 : (t234 != t236) = false := by simpa using c35
                      (try (have c35b1 : decide (t234 = t236) = true := by simpa using c35))
                      (try (have c35b2 : (t234 == t236) = true := by simpa using c35))
                      clear c35
                      have H' := Aside0.mk H
                      clear H
                      have hcz36_0 : wr.cell? ⟨gb225, 0, none⟩ = some (.int .i64 a0_0) := (blk_cell BK225.out 0).trans rfl
                      have hcz36_1 : wr.cell? ⟨gb225, 1, none⟩ = some (.int .i64 a0_1) := (blk_cell BK225.out 1).trans rfl
                      have hcz36_2 : wr.cell? ⟨gb225, 2, none⟩ = some (.int .i64 a0_2) := (blk_cell BK225.out 2).trans rfl
                      have hcz36_3 : wr.cell? ⟨gb225, 3, none⟩ = some (.int .i64 a0_3) := (blk_cell BK225.out 3).trans rfl
                      have hcz36_4 : wr.cell? ⟨gb225, 4, none⟩ = some (.int .i64 a0_4) := (blk_cell BK225.out 4).trans rfl
                      have hcz36_5 : wr.cell? ⟨gb225, 5, none⟩ = some (.int .i64 a0_5) := (blk_cell BK225.out 5).trans rfl
                      have hcz36_6 : wr.cell? ⟨gb225, 6, none⟩ = some (.int .i64 a0_6) := (blk_cell BK225.out 6).trans rfl
                      have hcz36_7 : wr.cell? ⟨gb225, 7, none⟩ = some (.int .i64 a0_7) := (blk_cell BK225.out 7).trans rfl
                      have hcz36_8 : wr.cell? ⟨gb225, 8, none⟩ = some (.int .i64 a0_8) := (blk_cell BK225.out 8).trans rfl
                      have hcz36_9 : wr.cell? ⟨gb225, 9, none⟩ = some (.int .i64 a0_9) := (blk_cell BK225.out 9).trans rfl
                      have hcz36_10 : wr.cell? ⟨gb225, 10, none⟩ = some (.slice A0_10 l0_10.length c0_10) := (blk_cell BK225.out 10).trans rfl
                      have hfz36_0 := blk_frozen BK225.out 0
                      have hfz36_1 := blk_frozen BK225.out 1
                      have hfz36_2 := blk_frozen BK225.out 2
                      have hfz36_3 := blk_frozen BK225.out 3
                      have hfz36_4 := blk_frozen BK225.out 4
                      have hfz36_5 := blk_frozen BK225.out 5
                      have hfz36_6 := blk_frozen BK225.out 6
                      have hfz36_7 := blk_frozen BK225.out 7
                      have hfz36_8 := blk_frozen BK225.out 8
                      have hfz36_9 := blk_frozen BK225.out 9
                      have hfz36_10 := blk_frozen BK225.out 10
                      go_wp2_with (first | ((with_reducible refine gate_callee (f := 25) rfl ?_); refine goesL_ (some 48) rfl rfl Try.func25 (by kernel_rfl) rfl #[.string t230, .int .i64 x11_2] rfl (by (try simp only [List.map_toArray, List.map_cons, List.map_nil]); first | done | rfl | (simp only [List.length_drop, List.length_take]; rfl)) ?_; (with_reducible refine (roster_Has.calls t230 x11_2 t232 _ A27.out).mono ?_); rintro e w' ⟨rfl, ⟨nd, rfl⟩⟩; refine ⟨_, rfl, ?_⟩) | ((with_reducible refine gate_callee (f := 25) rfl ?_); refine goesL_ (some 51) rfl rfl Try.func25 (by kernel_rfl) rfl #[.string a1, .int .i64 x11_2] rfl (by (try simp only [List.map_toArray, List.map_cons, List.map_nil]); first | done | rfl | (simp only [List.length_drop, List.length_take]; rfl)) ?_; (with_reducible refine (roster_Has.calls a1 x11_2 true _ A28.out).mono ?_); rintro e w' ⟨rfl, ⟨nd, rfl⟩⟩; refine ⟨_, rfl, ?_⟩) | (go_at_call 25; (with_reducible refine (roster_Has.calls t231 x11_2 t234 _ A31.out).mono ?_); rintro e w' ⟨rfl, ⟨nd, rfl⟩⟩) | (go_at_call 25; (with_reducible refine (roster_Has.calls a1 x11_2 true _ A32.out).mono ?_); rintro e w' ⟨rfl, ⟨nd, rfl⟩⟩) | (go_at_call 25; (with_reducible refine (roster_Has.calls a2 x11_2 t236 _ A34.out).mono ?_); rintro e w' ⟨rfl, ⟨nd, rfl⟩⟩))
                      go_roundg k2
                      case measure => have := HJ4.out; have := HK2.out; omega
                      case rel => exact ⟨(wrap64 (x11_2 + 1)), (by first | rfl | (simp; done) | (simp [*]; done)), H', ⟨by have := HJ4.out; have := HK2.out; omega⟩, ⟨by (with_reducible repeat (first | refine blk_drewN ?_ _ | refine blk_drew ?_ | refine blk_alloc ?_ _)); exact BK225.out⟩, ⟨by repeat (first | (with_reducible first | exact HB.out | apply below_alloc | apply pw_below_drewN | apply below_drew1 | refine below_set ?_ GE225.out) | exact HB.out)⟩⟩
                  · replace c33 := Bool.eq_false_iff.mpr c33
                    subst c33
                    have H1 : (if (t234 != false) = true then (none) else (bellwetherlaw25_RosterJoins.l0 k2 a1 a2 a3 t230 t231 (wrap64 (x11_2 + 1)) a0_0 a0_1 a0_2 a0_3 a0_4 a0_5 a0_6 a0_7 a0_8 a0_9 l0_10)) = some r := by rw [if_neg (show ¬ (false = true) by decide)] at H; exact H
                    clear H
                    have H := H1
                    clear H1
                    by_cases c37 : (t234 != false) = true
                    · rw [if_pos c37] at H
                      exact absurd H (by simp)
                    · rw [if_neg c37] at H
                      have c37b0 : (t234 != false) = false := by simpa using c37
                      (try (have c37b1 : decide (t234 = false) = true := by simpa using c37))
                      (try (have c37b2 : (t234 == false) = true := by simpa using c37))
                      clear c37
                      have H' := Aside0.mk H
                      clear H
                      have hcz38_0 : wr.cell? ⟨gb225, 0, none⟩ = some (.int .i64 a0_0) := (blk_cell BK225.out 0).trans rfl
                      have hcz38_1 : wr.cell? ⟨gb225, 1, none⟩ = some (.int .i64 a0_1) := (blk_cell BK225.out 1).trans rfl
                      have hcz38_2 : wr.cell? ⟨gb225, 2, none⟩ = some (.int .i64 a0_2) := (blk_cell BK225.out 2).trans rfl
                      have hcz38_3 : wr.cell? ⟨gb225, 3, none⟩ = some (.int .i64 a0_3) := (blk_cell BK225.out 3).trans rfl
                      have hcz38_4 : wr.cell? ⟨gb225, 4, none⟩ = some (.int .i64 a0_4) := (blk_cell BK225.out 4).trans rfl
                      have hcz38_5 : wr.cell? ⟨gb225, 5, none⟩ = some (.int .i64 a0_5) := (blk_cell BK225.out 5).trans rfl
                      have hcz38_6 : wr.cell? ⟨gb225, 6, none⟩ = some (.int .i64 a0_6) := (blk_cell BK225.out 6).trans rfl
                      have hcz38_7 : wr.cell? ⟨gb225, 7, none⟩ = some (.int .i64 a0_7) := (blk_cell BK225.out 7).trans rfl
                      have hcz38_8 : wr.cell? ⟨gb225, 8, none⟩ = some (.int .i64 a0_8) := (blk_cell BK225.out 8).trans rfl
                      have hcz38_9 : wr.cell? ⟨gb225, 9, none⟩ = some (.int .i64 a0_9) := (blk_cell BK225.out 9).trans rfl
                      have hcz38_10 : wr.cell? ⟨gb225, 10, none⟩ = some (.slice A0_10 l0_10.length c0_10) := (blk_cell BK225.out 10).trans rfl
                      have hfz38_0 := blk_frozen BK225.out 0
                      have hfz38_1 := blk_frozen BK225.out 1
                      have hfz38_2 := blk_frozen BK225.out 2
                      have hfz38_3 := blk_frozen BK225.out 3
                      have hfz38_4 := blk_frozen BK225.out 4
                      have hfz38_5 := blk_frozen BK225.out 5
                      have hfz38_6 := blk_frozen BK225.out 6
                      have hfz38_7 := blk_frozen BK225.out 7
                      have hfz38_8 := blk_frozen BK225.out 8
                      have hfz38_9 := blk_frozen BK225.out 9
                      have hfz38_10 := blk_frozen BK225.out 10
                      go_wp2_with (first | ((with_reducible refine gate_callee (f := 25) rfl ?_); refine goesL_ (some 48) rfl rfl Try.func25 (by kernel_rfl) rfl #[.string t230, .int .i64 x11_2] rfl (by (try simp only [List.map_toArray, List.map_cons, List.map_nil]); first | done | rfl | (simp only [List.length_drop, List.length_take]; rfl)) ?_; (with_reducible refine (roster_Has.calls t230 x11_2 t232 _ A27.out).mono ?_); rintro e w' ⟨rfl, ⟨nd, rfl⟩⟩; refine ⟨_, rfl, ?_⟩) | ((with_reducible refine gate_callee (f := 25) rfl ?_); refine goesL_ (some 51) rfl rfl Try.func25 (by kernel_rfl) rfl #[.string a1, .int .i64 x11_2] rfl (by (try simp only [List.map_toArray, List.map_cons, List.map_nil]); first | done | rfl | (simp only [List.length_drop, List.length_take]; rfl)) ?_; (with_reducible refine (roster_Has.calls a1 x11_2 true _ A28.out).mono ?_); rintro e w' ⟨rfl, ⟨nd, rfl⟩⟩; refine ⟨_, rfl, ?_⟩) | (go_at_call 25; (with_reducible refine (roster_Has.calls t231 x11_2 t234 _ A31.out).mono ?_); rintro e w' ⟨rfl, ⟨nd, rfl⟩⟩) | (go_at_call 25; (with_reducible refine (roster_Has.calls a1 x11_2 false _ A32.out).mono ?_); rintro e w' ⟨rfl, ⟨nd, rfl⟩⟩))
                      go_roundg k2
                      case measure => have := HJ4.out; have := HK2.out; omega
                      case rel => exact ⟨(wrap64 (x11_2 + 1)), (by first | rfl | (simp; done) | (simp [*]; done)), H', ⟨by have := HJ4.out; have := HK2.out; omega⟩, ⟨by (with_reducible repeat (first | refine blk_drewN ?_ _ | refine blk_drew ?_ | refine blk_alloc ?_ _)); exact BK225.out⟩, ⟨by repeat (first | (with_reducible first | exact HB.out | apply below_alloc | apply pw_below_drewN | apply below_drew1 | refine below_set ?_ GE225.out) | exact HB.out)⟩⟩
              · replace c29 := Bool.eq_false_iff.mpr c29
                subst c29
                have H1 : (if t232 = true then (if x11_2 = a3 then ((roster_Has.f t231 x11_2).bind fun t237 => ((roster_Has.f a1 x11_2).bind fun t238 => (if t238 = true then ((roster_Has.f a2 x11_2).bind fun t239 => (if (t237 != t239) = true then (none) else (bellwetherlaw25_RosterJoins.l0 k2 a1 a2 a3 t230 t231 (wrap64 (x11_2 + 1)) a0_0 a0_1 a0_2 a0_3 a0_4 a0_5 a0_6 a0_7 a0_8 a0_9 l0_10))) else (if (t237 != false) = true then (none) else (bellwetherlaw25_RosterJoins.l0 k2 a1 a2 a3 t230 t231 (wrap64 (x11_2 + 1)) a0_0 a0_1 a0_2 a0_3 a0_4 a0_5 a0_6 a0_7 a0_8 a0_9 l0_10))))) else (none)) else (if x11_2 = a3 then (none) else ((roster_Has.f t231 x11_2).bind fun t240 => ((roster_Has.f a1 x11_2).bind fun t241 => (if t241 = true then ((roster_Has.f a2 x11_2).bind fun t242 => (if (t240 != t242) = true then (none) else (bellwetherlaw25_RosterJoins.l0 k2 a1 a2 a3 t230 t231 (wrap64 (x11_2 + 1)) a0_0 a0_1 a0_2 a0_3 a0_4 a0_5 a0_6 a0_7 a0_8 a0_9 l0_10))) else (if (t240 != false) = true then (none) else (bellwetherlaw25_RosterJoins.l0 k2 a1 a2 a3 t230 t231 (wrap64 (x11_2 + 1)) a0_0 a0_1 a0_2 a0_3 a0_4 a0_5 a0_6 a0_7 a0_8 a0_9 l0_10))))))) = some r := by rw [if_neg (show ¬ (false = true) by decide)] at H; exact H
                clear H
                have H := H1
                clear H1
                by_cases c39 : t232 = true
                · subst c39
                  have H1 : (if x11_2 = a3 then ((roster_Has.f t231 x11_2).bind fun t237 => ((roster_Has.f a1 x11_2).bind fun t238 => (if t238 = true then ((roster_Has.f a2 x11_2).bind fun t239 => (if (t237 != t239) = true then (none) else (bellwetherlaw25_RosterJoins.l0 k2 a1 a2 a3 t230 t231 (wrap64 (x11_2 + 1)) a0_0 a0_1 a0_2 a0_3 a0_4 a0_5 a0_6 a0_7 a0_8 a0_9 l0_10))) else (if (t237 != false) = true then (none) else (bellwetherlaw25_RosterJoins.l0 k2 a1 a2 a3 t230 t231 (wrap64 (x11_2 + 1)) a0_0 a0_1 a0_2 a0_3 a0_4 a0_5 a0_6 a0_7 a0_8 a0_9 l0_10))))) else (none)) = some r := by rw [if_pos rfl] at H; exact H
                  clear H
                  have H := H1
                  clear H1
                  by_cases c40 : x11_2 = a3
                  · rw [if_pos c40] at H
                    have c40b0 : (x11_2 == a3) = true := beq_iff_eq.mpr c40
                    have c40b1 : (x11_2 != a3) = false := bne_eq_false_iff_eq.mpr c40
                    clear c40
                    replace H := Option.bind_eq_some_iff.mp H
                    obtain ⟨t237, A410, H⟩ := H
                    replace H : ((roster_Has.f a1 x11_2).bind fun t238 => (if t238 = true then ((roster_Has.f a2 x11_2).bind fun t239 => (if (t237 != t239) = true then (none) else (bellwetherlaw25_RosterJoins.l0 k2 a1 a2 a3 t230 t231 (wrap64 (x11_2 + 1)) a0_0 a0_1 a0_2 a0_3 a0_4 a0_5 a0_6 a0_7 a0_8 a0_9 l0_10))) else (if (t237 != false) = true then (none) else (bellwetherlaw25_RosterJoins.l0 k2 a1 a2 a3 t230 t231 (wrap64 (x11_2 + 1)) a0_0 a0_1 a0_2 a0_3 a0_4 a0_5 a0_6 a0_7 a0_8 a0_9 l0_10)))) = some r := H
                    have A41 := Aside0.mk A410
                    clear A410
                    replace H := Option.bind_eq_some_iff.mp H
                    obtain ⟨t238, A420, H⟩ := H
                    replace H : (if t238 = true then ((roster_Has.f a2 x11_2).bind fun t239 => (if (t237 != t239) = true then (none) else (bellwetherlaw25_RosterJoins.l0 k2 a1 a2 a3 t230 t231 (wrap64 (x11_2 + 1)) a0_0 a0_1 a0_2 a0_3 a0_4 a0_5 a0_6 a0_7 a0_8 a0_9 l0_10))) else (if (t237 != false) = true then (none) else (bellwetherlaw25_RosterJoins.l0 k2 a1 a2 a3 t230 t231 (wrap64 (x11_2 + 1)) a0_0 a0_1 a0_2 a0_3 a0_4 a0_5 a0_6 a0_7 a0_8 a0_9 l0_10))) = some r := H
                    have A42 := Aside0.mk A420
                    clear A420
                    by_cases c43 : t238 = true
                    · subst c43
                      have H1 : ((roster_Has.f a2 x11_2).bind fun t239 => (if (t237 != t239) = true then (none) else (bellwetherlaw25_RosterJoins.l0 k2 a1 a2 a3 t230 t231 (wrap64 (x11_2 + 1)) a0_0 a0_1 a0_2 a0_3 a0_4 a0_5 a0_6 a0_7 a0_8 a0_9 l0_10))) = some r := by rw [if_pos rfl] at H; exact H
                      clear H
                      have H := H1
                      clear H1
                      replace H := Option.bind_eq_some_iff.mp H
                      obtain ⟨t239, A440, H⟩ := H
                      replace H : (if (t237 != t239) = true then (none) else (bellwetherlaw25_RosterJoins.l0 k2 a1 a2 a3 t230 t231 (wrap64 (x11_2 + 1)) a0_0 a0_1 a0_2 a0_3 a0_4 a0_5 a0_6 a0_7 a0_8 a0_9 l0_10)) = some r := H
                      have A44 := Aside0.mk A440
                      clear A440
                      by_cases c45 : (t237 != t239) = true
                      · rw [if_pos c45] at H
                        exact absurd H (by simp)
                      · rw [if_neg c45] at H
                        have c45b0 : (t237 != t239) = false := by simpa using c45
                        (try (have c45b1 : decide (t237 = t239) = true := by simpa using c45))
                        (try (have c45b2 : (t237 == t239) = true := by simpa using c45))
                        clear c45
                        have H' := Aside0.mk H
                        clear H
                        have hcz46_0 : wr.cell? ⟨gb225, 0, none⟩ = some (.int .i64 a0_0) := (blk_cell BK225.out 0).trans rfl
                        have hcz46_1 : wr.cell? ⟨gb225, 1, none⟩ = some (.int .i64 a0_1) := (blk_cell BK225.out 1).trans rfl
                        have hcz46_2 : wr.cell? ⟨gb225, 2, none⟩ = some (.int .i64 a0_2) := (blk_cell BK225.out 2).trans rfl
                        have hcz46_3 : wr.cell? ⟨gb225, 3, none⟩ = some (.int .i64 a0_3) := (blk_cell BK225.out 3).trans rfl
                        have hcz46_4 : wr.cell? ⟨gb225, 4, none⟩ = some (.int .i64 a0_4) := (blk_cell BK225.out 4).trans rfl
                        have hcz46_5 : wr.cell? ⟨gb225, 5, none⟩ = some (.int .i64 a0_5) := (blk_cell BK225.out 5).trans rfl
                        have hcz46_6 : wr.cell? ⟨gb225, 6, none⟩ = some (.int .i64 a0_6) := (blk_cell BK225.out 6).trans rfl
                        have hcz46_7 : wr.cell? ⟨gb225, 7, none⟩ = some (.int .i64 a0_7) := (blk_cell BK225.out 7).trans rfl
                        have hcz46_8 : wr.cell? ⟨gb225, 8, none⟩ = some (.int .i64 a0_8) := (blk_cell BK225.out 8).trans rfl
                        have hcz46_9 : wr.cell? ⟨gb225, 9, none⟩ = some (.int .i64 a0_9) := (blk_cell BK225.out 9).trans rfl
                        have hcz46_10 : wr.cell? ⟨gb225, 10, none⟩ = some (.slice A0_10 l0_10.length c0_10) := (blk_cell BK225.out 10).trans rfl
                        have hfz46_0 := blk_frozen BK225.out 0
                        have hfz46_1 := blk_frozen BK225.out 1
                        have hfz46_2 := blk_frozen BK225.out 2
                        have hfz46_3 := blk_frozen BK225.out 3
                        have hfz46_4 := blk_frozen BK225.out 4
                        have hfz46_5 := blk_frozen BK225.out 5
                        have hfz46_6 := blk_frozen BK225.out 6
                        have hfz46_7 := blk_frozen BK225.out 7
                        have hfz46_8 := blk_frozen BK225.out 8
                        have hfz46_9 := blk_frozen BK225.out 9
                        have hfz46_10 := blk_frozen BK225.out 10
                        go_wp2_with (first | ((with_reducible refine gate_callee (f := 25) rfl ?_); refine goesL_ (some 48) rfl rfl Try.func25 (by kernel_rfl) rfl #[.string t230, .int .i64 x11_2] rfl (by (try simp only [List.map_toArray, List.map_cons, List.map_nil]); first | done | rfl | (simp only [List.length_drop, List.length_take]; rfl)) ?_; (with_reducible refine (roster_Has.calls t230 x11_2 true _ A27.out).mono ?_); rintro e w' ⟨rfl, ⟨nd, rfl⟩⟩; refine ⟨_, rfl, ?_⟩) | ((with_reducible refine gate_callee (f := 25) rfl ?_); refine goesL_ (some 51) rfl rfl Try.func25 (by kernel_rfl) rfl #[.string a1, .int .i64 x11_2] rfl (by (try simp only [List.map_toArray, List.map_cons, List.map_nil]); first | done | rfl | (simp only [List.length_drop, List.length_take]; rfl)) ?_; (with_reducible refine (roster_Has.calls a1 x11_2 false _ A28.out).mono ?_); rintro e w' ⟨rfl, ⟨nd, rfl⟩⟩; refine ⟨_, rfl, ?_⟩) | (go_at_call 25; (with_reducible refine (roster_Has.calls t231 x11_2 t237 _ A41.out).mono ?_); rintro e w' ⟨rfl, ⟨nd, rfl⟩⟩) | (go_at_call 25; (with_reducible refine (roster_Has.calls a1 x11_2 true _ A42.out).mono ?_); rintro e w' ⟨rfl, ⟨nd, rfl⟩⟩) | (go_at_call 25; (with_reducible refine (roster_Has.calls a2 x11_2 t239 _ A44.out).mono ?_); rintro e w' ⟨rfl, ⟨nd, rfl⟩⟩))
                        go_roundg k2
                        case measure => have := HJ4.out; have := HK2.out; omega
                        case rel => exact ⟨(wrap64 (x11_2 + 1)), (by first | rfl | (simp; done) | (simp [*]; done)), H', ⟨by have := HJ4.out; have := HK2.out; omega⟩, ⟨by (with_reducible repeat (first | refine blk_drewN ?_ _ | refine blk_drew ?_ | refine blk_alloc ?_ _)); exact BK225.out⟩, ⟨by repeat (first | (with_reducible first | exact HB.out | apply below_alloc | apply pw_below_drewN | apply below_drew1 | refine below_set ?_ GE225.out) | exact HB.out)⟩⟩
                    · replace c43 := Bool.eq_false_iff.mpr c43
                      subst c43
                      have H1 : (if (t237 != false) = true then (none) else (bellwetherlaw25_RosterJoins.l0 k2 a1 a2 a3 t230 t231 (wrap64 (x11_2 + 1)) a0_0 a0_1 a0_2 a0_3 a0_4 a0_5 a0_6 a0_7 a0_8 a0_9 l0_10)) = some r := by rw [if_neg (show ¬ (false = true) by decide)] at H; exact H
                      clear H
                      have H := H1
                      clear H1
                      by_cases c47 : (t237 != false) = true
                      · rw [if_pos c47] at H
                        exact absurd H (by simp)
                      · rw [if_neg c47] at H
                        have c47b0 : (t237 != false) = false := by simpa using c47
                        (try (have c47b1 : decide (t237 = false) = true := by simpa using c47))
                        (try (have c47b2 : (t237 == false) = true := by simpa using c47))
                        clear c47
                        have H' := Aside0.mk H
                        clear H
                        have hcz48_0 : wr.cell? ⟨gb225, 0, none⟩ = some (.int .i64 a0_0) := (blk_cell BK225.out 0).trans rfl
                        have hcz48_1 : wr.cell? ⟨gb225, 1, none⟩ = some (.int .i64 a0_1) := (blk_cell BK225.out 1).trans rfl
                        have hcz48_2 : wr.cell? ⟨gb225, 2, none⟩ = some (.int .i64 a0_2) := (blk_cell BK225.out 2).trans rfl
                        have hcz48_3 : wr.cell? ⟨gb225, 3, none⟩ = some (.int .i64 a0_3) := (blk_cell BK225.out 3).trans rfl
                        have hcz48_4 : wr.cell? ⟨gb225, 4, none⟩ = some (.int .i64 a0_4) := (blk_cell BK225.out 4).trans rfl
                        have hcz48_5 : wr.cell? ⟨gb225, 5, none⟩ = some (.int .i64 a0_5) := (blk_cell BK225.out 5).trans rfl
                        have hcz48_6 : wr.cell? ⟨gb225, 6, none⟩ = some (.int .i64 a0_6) := (blk_cell BK225.out 6).trans rfl
                        have hcz48_7 : wr.cell? ⟨gb225, 7, none⟩ = some (.int .i64 a0_7) := (blk_cell BK225.out 7).trans rfl
                        have hcz48_8 : wr.cell? ⟨gb225, 8, none⟩ = some (.int .i64 a0_8) := (blk_cell BK225.out 8).trans rfl
                        have hcz48_9 : wr.cell? ⟨gb225, 9, none⟩ = some (.int .i64 a0_9) := (blk_cell BK225.out 9).trans rfl
                        have hcz48_10 : wr.cell? ⟨gb225, 10, none⟩ = some (.slice A0_10 l0_10.length c0_10) := (blk_cell BK225.out 10).trans rfl
                        have hfz48_0 := blk_frozen BK225.out 0
                        have hfz48_1 := blk_frozen BK225.out 1
                        have hfz48_2 := blk_frozen BK225.out 2
                        have hfz48_3 := blk_frozen BK225.out 3
                        have hfz48_4 := blk_frozen BK225.out 4
                        have hfz48_5 := blk_frozen BK225.out 5
                        have hfz48_6 := blk_frozen BK225.out 6
                        have hfz48_7 := blk_frozen BK225.out 7
                        have hfz48_8 := blk_frozen BK225.out 8
                        have hfz48_9 := blk_frozen BK225.out 9
                        have hfz48_10 := blk_frozen BK225.out 10
                        go_wp2_with (first | ((with_reducible refine gate_callee (f := 25) rfl ?_); refine goesL_ (some 48) rfl rfl Try.func25 (by kernel_rfl) rfl #[.string t230, .int .i64 x11_2] rfl (by (try simp only [List.map_toArray, List.map_cons, List.map_nil]); first | done | rfl | (simp only [List.length_drop, List.length_take]; rfl)) ?_; (with_reducible refine (roster_Has.calls t230 x11_2 true _ A27.out).mono ?_); rintro e w' ⟨rfl, ⟨nd, rfl⟩⟩; refine ⟨_, rfl, ?_⟩) | ((with_reducible refine gate_callee (f := 25) rfl ?_); refine goesL_ (some 51) rfl rfl Try.func25 (by kernel_rfl) rfl #[.string a1, .int .i64 x11_2] rfl (by (try simp only [List.map_toArray, List.map_cons, List.map_nil]); first | done | rfl | (simp only [List.length_drop, List.length_take]; rfl)) ?_; (with_reducible refine (roster_Has.calls a1 x11_2 false _ A28.out).mono ?_); rintro e w' ⟨rfl, ⟨nd, rfl⟩⟩; refine ⟨_, rfl, ?_⟩) | (go_at_call 25; (with_reducible refine (roster_Has.calls t231 x11_2 t237 _ A41.out).mono ?_); rintro e w' ⟨rfl, ⟨nd, rfl⟩⟩) | (go_at_call 25; (with_reducible refine (roster_Has.calls a1 x11_2 false _ A42.out).mono ?_); rintro e w' ⟨rfl, ⟨nd, rfl⟩⟩))
                        go_roundg k2
                        case measure => have := HJ4.out; have := HK2.out; omega
                        case rel => exact ⟨(wrap64 (x11_2 + 1)), (by first | rfl | (simp; done) | (simp [*]; done)), H', ⟨by have := HJ4.out; have := HK2.out; omega⟩, ⟨by (with_reducible repeat (first | refine blk_drewN ?_ _ | refine blk_drew ?_ | refine blk_alloc ?_ _)); exact BK225.out⟩, ⟨by repeat (first | (with_reducible first | exact HB.out | apply below_alloc | apply pw_below_drewN | apply below_drew1 | refine below_set ?_ GE225.out) | exact HB.out)⟩⟩
                  · rw [if_neg c40] at H
                    exact absurd H (by simp)
                · replace c39 := Bool.eq_false_iff.mpr c39
                  subst c39
                  have H1 : (if x11_2 = a3 then (none) else ((roster_Has.f t231 x11_2).bind fun t240 => ((roster_Has.f a1 x11_2).bind fun t241 => (if t241 = true then ((roster_Has.f a2 x11_2).bind fun t242 => (if (t240 != t242) = true then (none) else (bellwetherlaw25_RosterJoins.l0 k2 a1 a2 a3 t230 t231 (wrap64 (x11_2 + 1)) a0_0 a0_1 a0_2 a0_3 a0_4 a0_5 a0_6 a0_7 a0_8 a0_9 l0_10))) else (if (t240 != false) = true then (none) else (bellwetherlaw25_RosterJoins.l0 k2 a1 a2 a3 t230 t231 (wrap64 (x11_2 + 1)) a0_0 a0_1 a0_2 a0_3 a0_4 a0_5 a0_6 a0_7 a0_8 a0_9 l0_10)))))) = some r := by rw [if_neg (show ¬ (false = true) by decide)] at H; exact H
                  clear H
                  have H := H1
                  clear H1
                  by_cases c49 : x11_2 = a3
                  · rw [if_pos c49] at H
                    exact absurd H (by simp)
                  · rw [if_neg c49] at H
                    have c49b0 : (x11_2 == a3) = false := beq_eq_false_iff_ne.mpr c49
                    have c49b1 : (x11_2 != a3) = true := bne_iff_ne.mpr c49
                    replace H := Option.bind_eq_some_iff.mp H
                    obtain ⟨t240, A500, H⟩ := H
                    replace H : ((roster_Has.f a1 x11_2).bind fun t241 => (if t241 = true then ((roster_Has.f a2 x11_2).bind fun t242 => (if (t240 != t242) = true then (none) else (bellwetherlaw25_RosterJoins.l0 k2 a1 a2 a3 t230 t231 (wrap64 (x11_2 + 1)) a0_0 a0_1 a0_2 a0_3 a0_4 a0_5 a0_6 a0_7 a0_8 a0_9 l0_10))) else (if (t240 != false) = true then (none) else (bellwetherlaw25_RosterJoins.l0 k2 a1 a2 a3 t230 t231 (wrap64 (x11_2 + 1)) a0_0 a0_1 a0_2 a0_3 a0_4 a0_5 a0_6 a0_7 a0_8 a0_9 l0_10)))) = some r := H
                    have A50 := Aside0.mk A500
                    clear A500
                    replace H := Option.bind_eq_some_iff.mp H
                    obtain ⟨t241, A510, H⟩ := H
                    replace H : (if t241 = true then ((roster_Has.f a2 x11_2).bind fun t242 => (if (t240 != t242) = true then (none) else (bellwetherlaw25_RosterJoins.l0 k2 a1 a2 a3 t230 t231 (wrap64 (x11_2 + 1)) a0_0 a0_1 a0_2 a0_3 a0_4 a0_5 a0_6 a0_7 a0_8 a0_9 l0_10))) else (if (t240 != false) = true then (none) else (bellwetherlaw25_RosterJoins.l0 k2 a1 a2 a3 t230 t231 (wrap64 (x11_2 + 1)) a0_0 a0_1 a0_2 a0_3 a0_4 a0_5 a0_6 a0_7 a0_8 a0_9 l0_10))) = some r := H
                    have A51 := Aside0.mk A510
                    clear A510
                    by_cases c52 : t241 = true
                    · subst c52
                      have H1 : ((roster_Has.f a2 x11_2).bind fun t242 => (if (t240 != t242) = true then (none) else (bellwetherlaw25_RosterJoins.l0 k2 a1 a2 a3 t230 t231 (wrap64 (x11_2 + 1)) a0_0 a0_1 a0_2 a0_3 a0_4 a0_5 a0_6 a0_7 a0_8 a0_9 l0_10))) = some r := by rw [if_pos rfl] at H; exact H
                      clear H
                      have H := H1
                      clear H1
                      replace H := Option.bind_eq_some_iff.mp H
                      obtain ⟨t242, A530, H⟩ := H
                      replace H : (if (t240 != t242) = true then (none) else (bellwetherlaw25_RosterJoins.l0 k2 a1 a2 a3 t230 t231 (wrap64 (x11_2 + 1)) a0_0 a0_1 a0_2 a0_3 a0_4 a0_5 a0_6 a0_7 a0_8 a0_9 l0_10)) = some r := H
                      have A53 := Aside0.mk A530
                      clear A530
                      by_cases c54 : (t240 != t242) = true
                      · rw [if_pos c54] at H
                        exact absurd H (by simp)
                      · rw [if_neg c54] at H
                        have c54b0 : (t240 != t242) = false := by simpa using c54
                        (try (have c54b1 : decide (t240 = t242) = true := by simpa using c54))
                        (try (have c54b2 : (t240 == t242) = true := by simpa using c54))
                        clear c54
                        have H' := Aside0.mk H
                        clear H
                        have hcz55_0 : wr.cell? ⟨gb225, 0, none⟩ = some (.int .i64 a0_0) := (blk_cell BK225.out 0).trans rfl
                        have hcz55_1 : wr.cell? ⟨gb225, 1, none⟩ = some (.int .i64 a0_1) := (blk_cell BK225.out 1).trans rfl
                        have hcz55_2 : wr.cell? ⟨gb225, 2, none⟩ = some (.int .i64 a0_2) := (blk_cell BK225.out 2).trans rfl
                        have hcz55_3 : wr.cell? ⟨gb225, 3, none⟩ = some (.int .i64 a0_3) := (blk_cell BK225.out 3).trans rfl
                        have hcz55_4 : wr.cell? ⟨gb225, 4, none⟩ = some (.int .i64 a0_4) := (blk_cell BK225.out 4).trans rfl
                        have hcz55_5 : wr.cell? ⟨gb225, 5, none⟩ = some (.int .i64 a0_5) := (blk_cell BK225.out 5).trans rfl
                        have hcz55_6 : wr.cell? ⟨gb225, 6, none⟩ = some (.int .i64 a0_6) := (blk_cell BK225.out 6).trans rfl
                        have hcz55_7 : wr.cell? ⟨gb225, 7, none⟩ = some (.int .i64 a0_7) := (blk_cell BK225.out 7).trans rfl
                        have hcz55_8 : wr.cell? ⟨gb225, 8, none⟩ = some (.int .i64 a0_8) := (blk_cell BK225.out 8).trans rfl
                        have hcz55_9 : wr.cell? ⟨gb225, 9, none⟩ = some (.int .i64 a0_9) := (blk_cell BK225.out 9).trans rfl
                        have hcz55_10 : wr.cell? ⟨gb225, 10, none⟩ = some (.slice A0_10 l0_10.length c0_10) := (blk_cell BK225.out 10).trans rfl
                        have hfz55_0 := blk_frozen BK225.out 0
                        have hfz55_1 := blk_frozen BK225.out 1
                        have hfz55_2 := blk_frozen BK225.out 2
                        have hfz55_3 := blk_frozen BK225.out 3
                        have hfz55_4 := blk_frozen BK225.out 4
                        have hfz55_5 := blk_frozen BK225.out 5
                        have hfz55_6 := blk_frozen BK225.out 6
                        have hfz55_7 := blk_frozen BK225.out 7
                        have hfz55_8 := blk_frozen BK225.out 8
                        have hfz55_9 := blk_frozen BK225.out 9
                        have hfz55_10 := blk_frozen BK225.out 10
                        go_wp2_with (first | ((with_reducible refine gate_callee (f := 25) rfl ?_); refine goesL_ (some 48) rfl rfl Try.func25 (by kernel_rfl) rfl #[.string t230, .int .i64 x11_2] rfl (by (try simp only [List.map_toArray, List.map_cons, List.map_nil]); first | done | rfl | (simp only [List.length_drop, List.length_take]; rfl)) ?_; (with_reducible refine (roster_Has.calls t230 x11_2 false _ A27.out).mono ?_); rintro e w' ⟨rfl, ⟨nd, rfl⟩⟩; refine ⟨_, rfl, ?_⟩) | ((with_reducible refine gate_callee (f := 25) rfl ?_); refine goesL_ (some 51) rfl rfl Try.func25 (by kernel_rfl) rfl #[.string a1, .int .i64 x11_2] rfl (by (try simp only [List.map_toArray, List.map_cons, List.map_nil]); first | done | rfl | (simp only [List.length_drop, List.length_take]; rfl)) ?_; (with_reducible refine (roster_Has.calls a1 x11_2 false _ A28.out).mono ?_); rintro e w' ⟨rfl, ⟨nd, rfl⟩⟩; refine ⟨_, rfl, ?_⟩) | (go_at_call 25; (with_reducible refine (roster_Has.calls t231 x11_2 t240 _ A50.out).mono ?_); rintro e w' ⟨rfl, ⟨nd, rfl⟩⟩) | (go_at_call 25; (with_reducible refine (roster_Has.calls a1 x11_2 true _ A51.out).mono ?_); rintro e w' ⟨rfl, ⟨nd, rfl⟩⟩) | (go_at_call 25; (with_reducible refine (roster_Has.calls a2 x11_2 t242 _ A53.out).mono ?_); rintro e w' ⟨rfl, ⟨nd, rfl⟩⟩))
                        go_roundg k2
                        case measure => have := HJ4.out; have := HK2.out; omega
                        case rel => exact ⟨(wrap64 (x11_2 + 1)), (by first | rfl | (simp; done) | (simp [*]; done)), H', ⟨by have := HJ4.out; have := HK2.out; omega⟩, ⟨by (with_reducible repeat (first | refine blk_drewN ?_ _ | refine blk_drew ?_ | refine blk_alloc ?_ _)); exact BK225.out⟩, ⟨by repeat (first | (with_reducible first | exact HB.out | apply below_alloc | apply pw_below_drewN | apply below_drew1 | refine below_set ?_ GE225.out) | exact HB.out)⟩⟩
                    · replace c52 := Bool.eq_false_iff.mpr c52
                      subst c52
                      have H1 : (if (t240 != false) = true then (none) else (bellwetherlaw25_RosterJoins.l0 k2 a1 a2 a3 t230 t231 (wrap64 (x11_2 + 1)) a0_0 a0_1 a0_2 a0_3 a0_4 a0_5 a0_6 a0_7 a0_8 a0_9 l0_10)) = some r := by rw [if_neg (show ¬ (false = true) by decide)] at H; exact H
                      clear H
                      have H := H1
                      clear H1
                      by_cases c56 : (t240 != false) = true
                      · rw [if_pos c56] at H
                        exact absurd H (by simp)
                      · rw [if_neg c56] at H
                        have c56b0 : (t240 != false) = false := by simpa using c56
                        (try (have c56b1 : decide (t240 = false) = true := by simpa using c56))
                        (try (have c56b2 : (t240 == false) = true := by simpa using c56))
                        clear c56
                        have H' := Aside0.mk H
                        clear H
                        have hcz57_0 : wr.cell? ⟨gb225, 0, none⟩ = some (.int .i64 a0_0) := (blk_cell BK225.out 0).trans rfl
                        have hcz57_1 : wr.cell? ⟨gb225, 1, none⟩ = some (.int .i64 a0_1) := (blk_cell BK225.out 1).trans rfl
                        have hcz57_2 : wr.cell? ⟨gb225, 2, none⟩ = some (.int .i64 a0_2) := (blk_cell BK225.out 2).trans rfl
                        have hcz57_3 : wr.cell? ⟨gb225, 3, none⟩ = some (.int .i64 a0_3) := (blk_cell BK225.out 3).trans rfl
                        have hcz57_4 : wr.cell? ⟨gb225, 4, none⟩ = some (.int .i64 a0_4) := (blk_cell BK225.out 4).trans rfl
                        have hcz57_5 : wr.cell? ⟨gb225, 5, none⟩ = some (.int .i64 a0_5) := (blk_cell BK225.out 5).trans rfl
                        have hcz57_6 : wr.cell? ⟨gb225, 6, none⟩ = some (.int .i64 a0_6) := (blk_cell BK225.out 6).trans rfl
                        have hcz57_7 : wr.cell? ⟨gb225, 7, none⟩ = some (.int .i64 a0_7) := (blk_cell BK225.out 7).trans rfl
                        have hcz57_8 : wr.cell? ⟨gb225, 8, none⟩ = some (.int .i64 a0_8) := (blk_cell BK225.out 8).trans rfl
                        have hcz57_9 : wr.cell? ⟨gb225, 9, none⟩ = some (.int .i64 a0_9) := (blk_cell BK225.out 9).trans rfl
                        have hcz57_10 : wr.cell? ⟨gb225, 10, none⟩ = some (.slice A0_10 l0_10.length c0_10) := (blk_cell BK225.out 10).trans rfl
                        have hfz57_0 := blk_frozen BK225.out 0
                        have hfz57_1 := blk_frozen BK225.out 1
                        have hfz57_2 := blk_frozen BK225.out 2
                        have hfz57_3 := blk_frozen BK225.out 3
                        have hfz57_4 := blk_frozen BK225.out 4
                        have hfz57_5 := blk_frozen BK225.out 5
                        have hfz57_6 := blk_frozen BK225.out 6
                        have hfz57_7 := blk_frozen BK225.out 7
                        have hfz57_8 := blk_frozen BK225.out 8
                        have hfz57_9 := blk_frozen BK225.out 9
                        have hfz57_10 := blk_frozen BK225.out 10
                        go_wp2_with (first | ((with_reducible refine gate_callee (f := 25) rfl ?_); refine goesL_ (some 48) rfl rfl Try.func25 (by kernel_rfl) rfl #[.string t230, .int .i64 x11_2] rfl (by (try simp only [List.map_toArray, List.map_cons, List.map_nil]); first | done | rfl | (simp only [List.length_drop, List.length_take]; rfl)) ?_; (with_reducible refine (roster_Has.calls t230 x11_2 false _ A27.out).mono ?_); rintro e w' ⟨rfl, ⟨nd, rfl⟩⟩; refine ⟨_, rfl, ?_⟩) | ((with_reducible refine gate_callee (f := 25) rfl ?_); refine goesL_ (some 51) rfl rfl Try.func25 (by kernel_rfl) rfl #[.string a1, .int .i64 x11_2] rfl (by (try simp only [List.map_toArray, List.map_cons, List.map_nil]); first | done | rfl | (simp only [List.length_drop, List.length_take]; rfl)) ?_; (with_reducible refine (roster_Has.calls a1 x11_2 false _ A28.out).mono ?_); rintro e w' ⟨rfl, ⟨nd, rfl⟩⟩; refine ⟨_, rfl, ?_⟩) | (go_at_call 25; (with_reducible refine (roster_Has.calls t231 x11_2 t240 _ A50.out).mono ?_); rintro e w' ⟨rfl, ⟨nd, rfl⟩⟩) | (go_at_call 25; (with_reducible refine (roster_Has.calls a1 x11_2 false _ A51.out).mono ?_); rintro e w' ⟨rfl, ⟨nd, rfl⟩⟩))
                        go_roundg k2
                        case measure => have := HJ4.out; have := HK2.out; omega
                        case rel => exact ⟨(wrap64 (x11_2 + 1)), (by first | rfl | (simp; done) | (simp [*]; done)), H', ⟨by have := HJ4.out; have := HK2.out; omega⟩, ⟨by (with_reducible repeat (first | refine blk_drewN ?_ _ | refine blk_drew ?_ | refine blk_alloc ?_ _)); exact BK225.out⟩, ⟨by repeat (first | (with_reducible first | exact HB.out | apply below_alloc | apply pw_below_drewN | apply below_drew1 | refine below_set ?_ GE225.out) | exact HB.out)⟩⟩
            · rw [if_neg c26] at H
              have c26b0 : decide (x11_2 < a0_0) = false := decide_eq_false c26
              clear c26
              by_cases c58 : (t230.size : Int) = a0_0
              · rw [if_pos c58] at H
                have c58b0 : ((t230.size : Int) == a0_0) = true := beq_iff_eq.mpr c58
                have c58b1 : ((t230.size : Int) != a0_0) = false := bne_eq_false_iff_eq.mpr c58
                clear c58
                replace H := Option.bind_eq_some_iff.mp H
                obtain ⟨t243, A590, H⟩ := H
                replace H : (if t231.toList = t243.toList then ((roster_Both.f k2 a0_0 a0_1 a0_2 a0_3 a0_4 a0_5 a0_6 a0_7 a0_8 a0_9 l0_10 a1 a1).bind fun t244 => ((roster_Mark.f k2 a0_0 a0_1 a0_2 a0_3 a0_4 a0_5 a0_6 a0_7 a0_8 a0_9 l0_10 a1 ([] : List Int)).bind fun t245 => (if t244.toList = t245.toList then ((bellwetherlaw25_known.f k2).bind fun t246 => (some t246)) else (none)))) else (none)) = some r := H
                have A59 := Aside0.mk A590
                clear A590
                by_cases c60 : t231.toList = t243.toList
                · rw [if_pos c60] at H
                  have c60b0 : (t231.toList == t243.toList) = true := beq_iff_eq.mpr c60
                  have c60b1 : (t231.toList != t243.toList) = false := bne_eq_false_iff_eq.mpr c60
                  clear c60
                  replace H := Option.bind_eq_some_iff.mp H
                  obtain ⟨t244, A610, H⟩ := H
                  replace H : ((roster_Mark.f k2 a0_0 a0_1 a0_2 a0_3 a0_4 a0_5 a0_6 a0_7 a0_8 a0_9 l0_10 a1 ([] : List Int)).bind fun t245 => (if t244.toList = t245.toList then ((bellwetherlaw25_known.f k2).bind fun t246 => (some t246)) else (none))) = some r := H
                  have A61 := Aside0.mk A610
                  clear A610
                  replace H := Option.bind_eq_some_iff.mp H
                  obtain ⟨t245, A620, H⟩ := H
                  replace H : (if t244.toList = t245.toList then ((bellwetherlaw25_known.f k2).bind fun t246 => (some t246)) else (none)) = some r := H
                  have A62 := Aside0.mk A620
                  clear A620
                  by_cases c63 : t244.toList = t245.toList
                  · rw [if_pos c63] at H
                    have c63b0 : (t244.toList == t245.toList) = true := beq_iff_eq.mpr c63
                    have c63b1 : (t244.toList != t245.toList) = false := bne_eq_false_iff_eq.mpr c63
                    clear c63
                    replace H := Option.bind_eq_some_iff.mp H
                    obtain ⟨t246, A640, H⟩ := H
                    replace H : (some t246) = some r := H
                    have A64 := Aside0.mk A640
                    clear A640
                    obtain rfl := Option.some.inj H
                    have hcz65_0 : wr.cell? ⟨gb225, 0, none⟩ = some (.int .i64 a0_0) := (blk_cell BK225.out 0).trans rfl
                    have hcz65_1 : wr.cell? ⟨gb225, 1, none⟩ = some (.int .i64 a0_1) := (blk_cell BK225.out 1).trans rfl
                    have hcz65_2 : wr.cell? ⟨gb225, 2, none⟩ = some (.int .i64 a0_2) := (blk_cell BK225.out 2).trans rfl
                    have hcz65_3 : wr.cell? ⟨gb225, 3, none⟩ = some (.int .i64 a0_3) := (blk_cell BK225.out 3).trans rfl
                    have hcz65_4 : wr.cell? ⟨gb225, 4, none⟩ = some (.int .i64 a0_4) := (blk_cell BK225.out 4).trans rfl
                    have hcz65_5 : wr.cell? ⟨gb225, 5, none⟩ = some (.int .i64 a0_5) := (blk_cell BK225.out 5).trans rfl
                    have hcz65_6 : wr.cell? ⟨gb225, 6, none⟩ = some (.int .i64 a0_6) := (blk_cell BK225.out 6).trans rfl
                    have hcz65_7 : wr.cell? ⟨gb225, 7, none⟩ = some (.int .i64 a0_7) := (blk_cell BK225.out 7).trans rfl
                    have hcz65_8 : wr.cell? ⟨gb225, 8, none⟩ = some (.int .i64 a0_8) := (blk_cell BK225.out 8).trans rfl
                    have hcz65_9 : wr.cell? ⟨gb225, 9, none⟩ = some (.int .i64 a0_9) := (blk_cell BK225.out 9).trans rfl
                    have hcz65_10 : wr.cell? ⟨gb225, 10, none⟩ = some (.slice A0_10 l0_10.length c0_10) := (blk_cell BK225.out 10).trans rfl
                    have hfz65_0 := blk_frozen BK225.out 0
                    have hfz65_1 := blk_frozen BK225.out 1
                    have hfz65_2 := blk_frozen BK225.out 2
                    have hfz65_3 := blk_frozen BK225.out 3
                    have hfz65_4 := blk_frozen BK225.out 4
                    have hfz65_5 := blk_frozen BK225.out 5
                    have hfz65_6 := blk_frozen BK225.out 6
                    have hfz65_7 := blk_frozen BK225.out 7
                    have hfz65_8 := blk_frozen BK225.out 8
                    have hfz65_9 := blk_frozen BK225.out 9
                    have hfz65_10 := blk_frozen BK225.out 10
                    try go_wp2
                    have n0_ := Aside0.mk (blk_drew BK225.out)
                    have n1_ := Aside0.mk (below_drew1 HB.out)
                    clear BK225
                    clear HB
                    have BK225 := n0_
                    have HB := n1_
                    clear n0_ n1_
                    refine start_ (n := 27) (S := fun w' => w'.cell? ⟨gb225, 0, none⟩ = some (.int .i64 a0_0) ∧ w'.cell? ⟨gb225, 1, none⟩ = some (.int .i64 a0_1) ∧ w'.cell? ⟨gb225, 2, none⟩ = some (.int .i64 a0_2) ∧ w'.cell? ⟨gb225, 3, none⟩ = some (.int .i64 a0_3) ∧ w'.cell? ⟨gb225, 4, none⟩ = some (.int .i64 a0_4) ∧ w'.cell? ⟨gb225, 5, none⟩ = some (.int .i64 a0_5) ∧ w'.cell? ⟨gb225, 6, none⟩ = some (.int .i64 a0_6) ∧ w'.cell? ⟨gb225, 7, none⟩ = some (.int .i64 a0_7) ∧ w'.cell? ⟨gb225, 8, none⟩ = some (.int .i64 a0_8) ∧ w'.cell? ⟨gb225, 9, none⟩ = some (.int .i64 a0_9) ∧ w'.cell? ⟨gb225, 10, none⟩ = some (.slice A0_10 l0_10.length c0_10)) (ds := []) #[false, false, false, false, false, false, false, false, false, false, false, false, false, false, false, false, false, false, false, false, false, false, false, false, false, false, false] (by kernel_rfl) rfl rfl ⟨(blk_cell BK225.out 0).trans rfl, (blk_cell BK225.out 1).trans rfl, (blk_cell BK225.out 2).trans rfl, (blk_cell BK225.out 3).trans rfl, (blk_cell BK225.out 4).trans rfl, (blk_cell BK225.out 5).trans rfl, (blk_cell BK225.out 6).trans rfl, (blk_cell BK225.out 7).trans rfl, (blk_cell BK225.out 8).trans rfl, (blk_cell BK225.out 9).trans rfl, (blk_cell BK225.out 10).trans rfl⟩ (fun hHeld => ?_); refine with_tabW bellwetherlaw25_RosterJoins.tab10 bellwetherlaw25_RosterJoins.bits10 (fun HT_ HW_ => ?_)
                    generalize wr.drew = w66 at BK225 HB hHeld ⊢
                    refine pure_ (i := 0) (N := some 72) (v := ?_) (a' := ?_) #[true, false, false, false, false, false, false, false, false, false, false, false, false, false, false, false, false, false, false, false, false, false, false, false, false, false, false] rfl rfl (any_of HT_.out (by kernel_rfl)) (fun _ _ _ h => h) (Or.inl ⟨by rfl, ?_⟩) ?_ ?_
                    rotate_left
                    · intro w'
                      go_simp
                      with_reducible rfl
                    rotate_left
                    · simp only [Act.put, List.setIfInBounds_toArray, List.set_cons_zero, List.set_cons_succ, i64_w, i32_w]
                      rfl
                    refine pure_ (i := 1) (N := some 73) (v := ?_) (a' := ?_) #[true, true, false, false, false, false, false, false, false, false, false, false, false, false, false, false, false, false, false, false, false, false, false, false, false, false, false] rfl rfl (any_of HT_.out (by kernel_rfl)) (fun _ _ _ h => h) (Or.inl ⟨by rfl, ?_⟩) ?_ ?_
                    rotate_left
                    · intro w'
                      go_simp
                      with_reducible rfl
                    rotate_left
                    · simp only [Act.put, List.setIfInBounds_toArray, List.set_cons_zero, List.set_cons_succ, i64_w, i32_w]
                      rfl
                    refine pure_ (i := 2) (N := some 74) (v := ?_) (a' := ?_) #[true, true, true, false, false, false, false, false, false, false, false, false, false, false, false, false, false, false, false, false, false, false, false, false, false, false, false] rfl rfl (any_of HT_.out (by kernel_rfl)) (fun _ _ _ h => h) (Or.inl ⟨by rfl, ?_⟩) ?_ ?_
                    rotate_left
                    · intro w'
                      go_simp
                      with_reducible rfl
                    rotate_left
                    · simp only [Act.put, List.setIfInBounds_toArray, List.set_cons_zero, List.set_cons_succ, i64_w, i32_w]
                      rfl
                    refine take_ (i := 3) (N := some 75) (v := ?_) (a' := ?_) #[true, true, true, true, false, false, false, false, false, false, false, false, false, false, false, false, false, false, false, false, false, false, false, false, false, false, false] rfl rfl (take_ofW HT_.out HW_.out (by kernel_rfl)) (fun _ _ _ h => h) (Or.inl ⟨by rfl, ?_⟩) hHeld ?_ ?_
                    rotate_left
                    · rintro w' ⟨s0, s1, s2, s3, s4, s5, s6, s7, s8, s9, s10⟩
                      go_simp
                      with_reducible rfl
                    rotate_left
                    · simp only [Act.put, List.setIfInBounds_toArray, List.set_cons_zero, List.set_cons_succ, i64_w, i32_w]
                      rfl
                    refine pure_ (i := 4) (N := some 76) (v := ?_) (a' := ?_) #[true, true, true, true, true, false, false, false, false, false, false, false, false, false, false, false, false, false, false, false, false, false, false, false, false, false, false] rfl rfl (any_of HT_.out (by kernel_rfl)) (fun _ _ _ h => h) (Or.inl ⟨by rfl, ?_⟩) ?_ ?_
                    rotate_left
                    · intro w'
                      go_simp
                      with_reducible rfl
                    rotate_left
                    · simp only [Act.put, List.setIfInBounds_toArray, List.set_cons_zero, List.set_cons_succ, i64_w, i32_w]
                      rfl
                    refine pure_ (i := 5) (N := some 77) (v := ?_) (a' := ?_) #[true, true, true, true, true, true, false, false, false, false, false, false, false, false, false, false, false, false, false, false, false, false, false, false, false, false, false] rfl rfl (any_of HT_.out (by kernel_rfl)) (fun _ _ _ h => h) (Or.inl ⟨by rfl, ?_⟩) ?_ ?_
                    rotate_left
                    · intro w'
                      go_simp
                      with_reducible rfl
                    rotate_left
                    · simp only [Act.put, List.setIfInBounds_toArray, List.set_cons_zero, List.set_cons_succ, i64_w, i32_w]
                      rfl
                    refine pure_ (i := 6) (N := some 78) (v := ?_) (a' := ?_) #[true, true, true, true, true, true, true, false, false, false, false, false, false, false, false, false, false, false, false, false, false, false, false, false, false, false, false] rfl rfl (any_of HT_.out (by kernel_rfl)) (fun _ _ _ h => h) (Or.inl ⟨by rfl, ?_⟩) ?_ ?_
                    rotate_left
                    · intro w'
                      go_simp
                      with_reducible rfl
                    rotate_left
                    · simp only [Act.put, List.setIfInBounds_toArray, List.set_cons_zero, List.set_cons_succ, i64_w, i32_w]
                      rfl
                    refine pure_ (i := 8) (N := some 80) (v := ?_) (a' := ?_) #[true, true, true, true, true, true, true, false, true, false, false, false, false, false, false, false, false, false, false, false, false, false, false, false, false, false, false] rfl rfl (any_of HT_.out (by kernel_rfl)) (fun _ _ _ h => h) (Or.inl ⟨by rfl, ?_⟩) ?_ ?_
                    rotate_left
                    · intro w'
                      go_simp
                      with_reducible rfl
                    rotate_left
                    · simp only [Act.put, List.setIfInBounds_toArray, List.set_cons_zero, List.set_cons_succ, i64_w, i32_w]
                      rfl
                    refine pure_ (i := 9) (N := some 81) (v := ?_) (a' := ?_) #[true, true, true, true, true, true, true, false, true, true, false, false, false, false, false, false, false, false, false, false, false, false, false, false, false, false, false] rfl rfl (any_of HT_.out (by kernel_rfl)) (fun _ _ _ h => h) (Or.inl ⟨by rfl, ?_⟩) ?_ ?_
                    rotate_left
                    · intro w'
                      go_simp
                      with_reducible rfl
                    rotate_left
                    · simp only [Act.put, List.setIfInBounds_toArray, List.set_cons_zero, List.set_cons_succ, i64_w, i32_w]
                      rfl
                    refine take_ (i := 7) (N := some 79) (v := ?_) (a' := ?_) #[true, true, true, true, true, true, true, true, true, true, false, false, false, false, false, false, false, false, false, false, false, false, false, false, false, false, false] rfl rfl (take_ofW HT_.out HW_.out (by kernel_rfl)) (fun _ _ _ h => h) (Or.inl ⟨by rfl, ?_⟩) hHeld ?_ ?_
                    rotate_left
                    · rintro w' ⟨s0, s1, s2, s3, s4, s5, s6, s7, s8, s9, s10⟩
                      go_simp
                      with_reducible rfl
                    rotate_left
                    · simp only [Act.put, List.setIfInBounds_toArray, List.set_cons_zero, List.set_cons_succ, i64_w, i32_w]
                      rfl
                    refine one_ (i := 10) (N := some 82) #[true, true, true, true, true, true, true, true, true, true, true, false, false, false, false, false, false, false, false, false, false, false, false, false, false, false, false] rfl rfl (one_of HT_.out (by kernel_rfl)) (by decide) (fun K hK => ?_)
                    refine goes_ Try.func23 (by kernel_rfl) rfl #[.agg #[.int .i64 a0_0, .int .i64 a0_1, .int .i64 a0_2, .int .i64 a0_3, .int .i64 a0_4, .int .i64 a0_5, .int .i64 a0_6, .int .i64 a0_7, .int .i64 a0_8, .int .i64 a0_9, .slice A0_10 l0_10.length c0_10], .string a2, .string a1] (by rfl) rfl rfl (by (try simp only [List.map_toArray, List.map_cons, List.map_nil]); first | done | rfl | (simp only [List.length_drop, List.length_take]; rfl)) ?_
                    with_reducible refine (roster_Both.calls k2 a0_0 a0_1 a0_2 a0_3 a0_4 a0_5 a0_6 a0_7 a0_8 a0_9 _ _ l0_10 a2 a1 t243 _ ?side1 ?side2 A59.out).mono ?_
                    (case side1 => repeat (first | exact (Kd.C_below HR0_10.out HB.out) | (with_reducible refine Kd.C_alloc ?_ _) | (with_reducible refine Kd.C_drewN ?_ _) | (with_reducible refine Kd.C_drew ?_)))
                    (case side2 => exact HC0_10.out)
                    rintro e w67 ⟨rfl, hb⟩
                    refine ⟨_, rfl, ?_⟩
                    have n0_ := Aside0.mk (blk_below (g := gb225) (o := .cells #[.int .i64 a0_0, .int .i64 a0_1, .int .i64 a0_2, .int .i64 a0_3, .int .i64 a0_4, .int .i64 a0_5, .int .i64 a0_6, .int .i64 a0_7, .int .i64 a0_8, .int .i64 a0_9, .slice A0_10 l0_10.length c0_10] 24 (0, 0)) (by (with_reducible repeat (first | refine blk_drewN ?_ _ | refine blk_drew ?_ | refine blk_alloc ?_ _)); exact BK225.out) hb)
                    have n1_ := Aside0.mk (below_step (by repeat (first | (with_reducible first | exact HB.out | apply below_alloc | apply pw_below_drewN | apply below_drew1 | refine below_set ?_ GE225.out) | exact HB.out)) hb)
                    clear BK225
                    clear HB
                    have BK225 := n0_
                    have HB := n1_
                    clear n0_ n1_
                    (try clear hb)
                    (try clear hb2)
                    (try clear hk)
                    (try clear hi)
                    refine hK.out _ _ ⟨(blk_cell BK225.out 0).trans rfl, (blk_cell BK225.out 1).trans rfl, (blk_cell BK225.out 2).trans rfl, (blk_cell BK225.out 3).trans rfl, (blk_cell BK225.out 4).trans rfl, (blk_cell BK225.out 5).trans rfl, (blk_cell BK225.out 6).trans rfl, (blk_cell BK225.out 7).trans rfl, (blk_cell BK225.out 8).trans rfl, (blk_cell BK225.out 9).trans rfl, (blk_cell BK225.out 10).trans rfl⟩ (fun hHeld => ?_)
                    clear hK K
                    refine norm_ (a' := ?_) ?_ ?_
                    rotate_left
                    · show Act.put _ (some 82) _ = _
                      simp only [Act.put, List.setIfInBounds_toArray, List.set_cons_zero, List.set_cons_succ, i64_w, i32_w]
                      rfl
                    refine pure_ (i := 11) (N := some 83) (v := ?_) (a' := ?_) #[true, true, true, true, true, true, true, true, true, true, true, true, false, false, false, false, false, false, false, false, false, false, false, false, false, false, false] rfl rfl (any_of HT_.out (by kernel_rfl)) (fun _ _ _ h => h) (Or.inl ⟨by rfl, ?_⟩) ?_ ?_
                    rotate_left
                    · intro w'
                      go_simp
                      with_reducible rfl
                    rotate_left
                    · simp only [Act.put, List.setIfInBounds_toArray, List.set_cons_zero, List.set_cons_succ, i64_w, i32_w]
                      rfl
                    refine pure_ (i := 12) (N := some 84) (v := ?_) (a' := ?_) #[true, true, true, true, true, true, true, true, true, true, true, true, true, false, false, false, false, false, false, false, false, false, false, false, false, false, false] rfl rfl (any_of HT_.out (by kernel_rfl)) (fun _ _ _ h => h) (Or.inl ⟨by rfl, ?_⟩) ?_ ?_
                    rotate_left
                    · intro w'
                      go_simp
                      with_reducible rfl
                    rotate_left
                    · simp only [Act.put, List.setIfInBounds_toArray, List.set_cons_zero, List.set_cons_succ, i64_w, i32_w]
                      rfl
                    refine pure_ (i := 13) (N := some 85) (v := ?_) (a' := ?_) #[true, true, true, true, true, true, true, true, true, true, true, true, true, true, false, false, false, false, false, false, false, false, false, false, false, false, false] rfl rfl (any_of HT_.out (by kernel_rfl)) (fun _ _ _ h => h) (Or.inl ⟨by rfl, ?_⟩) ?_ ?_
                    rotate_left
                    · intro w'
                      go_simp
                      with_reducible rfl
                    rotate_left
                    · simp only [Act.put, List.setIfInBounds_toArray, List.set_cons_zero, List.set_cons_succ, i64_w, i32_w]
                      rfl
                    refine pure_ (i := 15) (N := some 87) (v := ?_) (a' := ?_) #[true, true, true, true, true, true, true, true, true, true, true, true, true, true, false, true, false, false, false, false, false, false, false, false, false, false, false] rfl rfl (any_of HT_.out (by kernel_rfl)) (fun _ _ _ h => h) (Or.inl ⟨by rfl, ?_⟩) ?_ ?_
                    rotate_left
                    · intro w'
                      go_simp
                      with_reducible rfl
                    rotate_left
                    · simp only [Act.put, List.setIfInBounds_toArray, List.set_cons_zero, List.set_cons_succ, i64_w, i32_w]
                      rfl
                    refine pure_ (i := 16) (N := some 88) (v := ?_) (a' := ?_) #[true, true, true, true, true, true, true, true, true, true, true, true, true, true, false, true, true, false, false, false, false, false, false, false, false, false, false] rfl rfl (any_of HT_.out (by kernel_rfl)) (fun _ _ _ h => h) (Or.inl ⟨by rfl, ?_⟩) ?_ ?_
                    rotate_left
                    · intro w'
                      go_simp
                      with_reducible rfl
                    rotate_left
                    · simp only [Act.put, List.setIfInBounds_toArray, List.set_cons_zero, List.set_cons_succ, i64_w, i32_w]
                      rfl
                    refine pure_ (i := 19) (N := some 91) (v := ?_) (a' := ?_) #[true, true, true, true, true, true, true, true, true, true, true, true, true, true, false, true, true, false, false, true, false, false, false, false, false, false, false] rfl rfl (any_of HT_.out (by kernel_rfl)) (fun _ _ _ h => h) (Or.inl ⟨by rfl, ?_⟩) ?_ ?_
                    rotate_left
                    · intro w'
                      go_simp
                      with_reducible rfl
                    rotate_left
                    · simp only [Act.put, List.setIfInBounds_toArray, List.set_cons_zero, List.set_cons_succ, i64_w, i32_w]
                      rfl
                    refine take_ (i := 14) (N := some 86) (v := ?_) (a' := ?_) #[true, true, true, true, true, true, true, true, true, true, true, true, true, true, true, true, true, false, false, true, false, false, false, false, false, false, false] rfl rfl (take_ofW HT_.out HW_.out (by kernel_rfl)) (fun _ _ _ h => h) (Or.inl ⟨by rfl, ?_⟩) hHeld ?_ ?_
                    rotate_left
                    · rintro w' ⟨s0, s1, s2, s3, s4, s5, s6, s7, s8, s9, s10⟩
                      go_simp
                      with_reducible rfl
                    rotate_left
                    · simp only [Act.put, List.setIfInBounds_toArray, List.set_cons_zero, List.set_cons_succ, i64_w, i32_w]
                      rfl
                    refine take_ (i := 18) (N := some 90) (v := ?_) (a' := ?_) #[true, true, true, true, true, true, true, true, true, true, true, true, true, true, true, true, true, false, true, true, false, false, false, false, false, false, false] rfl rfl (take_ofW HT_.out HW_.out (by kernel_rfl)) (fun _ _ _ h => h) (Or.inl ⟨by rfl, ?_⟩) hHeld ?_ ?_
                    rotate_left
                    · rintro w' ⟨s0, s1, s2, s3, s4, s5, s6, s7, s8, s9, s10⟩
                      go_simp
                      with_reducible rfl
                    rotate_left
                    · simp only [Act.put, List.setIfInBounds_toArray, List.set_cons_zero, List.set_cons_succ, i64_w, i32_w]
                      rfl
                    refine one_ (i := 17) (N := some 89) #[true, true, true, true, true, true, true, true, true, true, true, true, true, true, true, true, true, true, true, true, false, false, false, false, false, false, false] rfl rfl (one_of HT_.out (by kernel_rfl)) (by decide) (fun K hK => ?_)
                    refine goes_ Try.func23 (by kernel_rfl) rfl #[.agg #[.int .i64 a0_0, .int .i64 a0_1, .int .i64 a0_2, .int .i64 a0_3, .int .i64 a0_4, .int .i64 a0_5, .int .i64 a0_6, .int .i64 a0_7, .int .i64 a0_8, .int .i64 a0_9, .slice A0_10 l0_10.length c0_10], .string a1, .string a1] (by rfl) rfl rfl (by (try simp only [List.map_toArray, List.map_cons, List.map_nil]); first | done | rfl | (simp only [List.length_drop, List.length_take]; rfl)) ?_
                    with_reducible refine (roster_Both.calls k2 a0_0 a0_1 a0_2 a0_3 a0_4 a0_5 a0_6 a0_7 a0_8 a0_9 _ _ l0_10 a1 a1 t244 _ ?side1 ?side2 A61.out).mono ?_
                    (case side1 => repeat (first | exact (Kd.C_below HR0_10.out HB.out) | (with_reducible refine Kd.C_alloc ?_ _) | (with_reducible refine Kd.C_drewN ?_ _) | (with_reducible refine Kd.C_drew ?_)))
                    (case side2 => exact HC0_10.out)
                    rintro e w68 ⟨rfl, hb⟩
                    refine ⟨_, rfl, ?_⟩
                    have n0_ := Aside0.mk (blk_below (g := gb225) (o := .cells #[.int .i64 a0_0, .int .i64 a0_1, .int .i64 a0_2, .int .i64 a0_3, .int .i64 a0_4, .int .i64 a0_5, .int .i64 a0_6, .int .i64 a0_7, .int .i64 a0_8, .int .i64 a0_9, .slice A0_10 l0_10.length c0_10] 24 (0, 0)) (by (with_reducible repeat (first | refine blk_drewN ?_ _ | refine blk_drew ?_ | refine blk_alloc ?_ _)); exact BK225.out) hb)
                    have n1_ := Aside0.mk (below_step (by repeat (first | (with_reducible first | exact HB.out | apply below_alloc | apply pw_below_drewN | apply below_drew1 | refine below_set ?_ GE225.out) | exact HB.out)) hb)
                    clear BK225
                    clear HB
                    have BK225 := n0_
                    have HB := n1_
                    clear n0_ n1_
                    (try clear hb)
                    (try clear hb2)
                    (try clear hk)
                    (try clear hi)
                    refine hK.out _ _ ⟨(blk_cell BK225.out 0).trans rfl, (blk_cell BK225.out 1).trans rfl, (blk_cell BK225.out 2).trans rfl, (blk_cell BK225.out 3).trans rfl, (blk_cell BK225.out 4).trans rfl, (blk_cell BK225.out 5).trans rfl, (blk_cell BK225.out 6).trans rfl, (blk_cell BK225.out 7).trans rfl, (blk_cell BK225.out 8).trans rfl, (blk_cell BK225.out 9).trans rfl, (blk_cell BK225.out 10).trans rfl⟩ (fun hHeld => ?_)
                    clear hK K
                    refine norm_ (a' := ?_) ?_ ?_
                    rotate_left
                    · show Act.put _ (some 89) _ = _
                      simp only [Act.put, List.setIfInBounds_toArray, List.set_cons_zero, List.set_cons_succ, i64_w, i32_w]
                      rfl
                    refine one_ (i := 20) (N := some 92) #[true, true, true, true, true, true, true, true, true, true, true, true, true, true, true, true, true, true, true, true, true, false, false, false, false, false, false] rfl rfl (one_of HT_.out (by kernel_rfl)) (by decide) (fun K hK => ?_)
                    refine goes_ Try.func21 (by kernel_rfl) rfl #[.agg #[.int .i64 a0_0, .int .i64 a0_1, .int .i64 a0_2, .int .i64 a0_3, .int .i64 a0_4, .int .i64 a0_5, .int .i64 a0_6, .int .i64 a0_7, .int .i64 a0_8, .int .i64 a0_9, .slice A0_10 l0_10.length c0_10], .string a1, .slice none 0 0] (by rfl) rfl rfl (by (try simp only [List.map_toArray, List.map_cons, List.map_nil]); first | done | rfl | (simp only [List.length_drop, List.length_take]; rfl)) ?_
                    refine (roster_Mark.calls k2 a0_0 a0_1 a0_2 a0_3 a0_4 a0_5 a0_6 a0_7 a0_8 a0_9 _ _ l0_10 a1 _ _ ([] : List Int) t245 _ ?side1 ?side2 ?side3 ?side4 A62.out).mono ?_
                    (case side1 => repeat (first | exact (Kd.C_below HR0_10.out HB.out) | (with_reducible refine Kd.C_alloc ?_ _) | (with_reducible refine Kd.C_drewN ?_ _) | (with_reducible refine Kd.C_drew ?_)))
                    (case side2 => exact HC0_10.out)
                    (case side3 => exact Kd.C_nil _ _)
                    (case side4 => exact Nat.le_refl _)
                    rintro e w69 ⟨rfl, hb⟩
                    refine ⟨_, rfl, ?_⟩
                    have n0_ := Aside0.mk (blk_below (g := gb225) (o := .cells #[.int .i64 a0_0, .int .i64 a0_1, .int .i64 a0_2, .int .i64 a0_3, .int .i64 a0_4, .int .i64 a0_5, .int .i64 a0_6, .int .i64 a0_7, .int .i64 a0_8, .int .i64 a0_9, .slice A0_10 l0_10.length c0_10] 24 (0, 0)) (by (with_reducible repeat (first | refine blk_drewN ?_ _ | refine blk_drew ?_ | refine blk_alloc ?_ _)); exact BK225.out) hb)
                    have n1_ := Aside0.mk (below_step (by repeat (first | (with_reducible first | exact HB.out | apply below_alloc | apply pw_below_drewN | apply below_drew1 | refine below_set ?_ GE225.out) | exact HB.out)) hb)
                    clear BK225
                    clear HB
                    have BK225 := n0_
                    have HB := n1_
                    clear n0_ n1_
                    (try clear hb)
                    (try clear hb2)
                    (try clear hk)
                    (try clear hi)
                    refine hK.out _ _ ⟨(blk_cell BK225.out 0).trans rfl, (blk_cell BK225.out 1).trans rfl, (blk_cell BK225.out 2).trans rfl, (blk_cell BK225.out 3).trans rfl, (blk_cell BK225.out 4).trans rfl, (blk_cell BK225.out 5).trans rfl, (blk_cell BK225.out 6).trans rfl, (blk_cell BK225.out 7).trans rfl, (blk_cell BK225.out 8).trans rfl, (blk_cell BK225.out 9).trans rfl, (blk_cell BK225.out 10).trans rfl⟩ (fun hHeld => ?_)
                    clear hK K
                    refine norm_ (a' := ?_) ?_ ?_
                    rotate_left
                    · show Act.put _ (some 92) _ = _
                      simp only [Act.put, List.setIfInBounds_toArray, List.set_cons_zero, List.set_cons_succ, i64_w, i32_w]
                      rfl
                    refine pure_ (i := 21) (N := some 93) (v := ?_) (a' := ?_) #[true, true, true, true, true, true, true, true, true, true, true, true, true, true, true, true, true, true, true, true, true, true, false, false, false, false, false] rfl rfl (any_of HT_.out (by kernel_rfl)) (fun _ _ _ h => h) (Or.inl ⟨by rfl, ?_⟩) ?_ ?_
                    rotate_left
                    · intro w'
                      go_simp
                      with_reducible rfl
                    rotate_left
                    · simp only [Act.put, List.setIfInBounds_toArray, List.set_cons_zero, List.set_cons_succ, i64_w, i32_w]
                      rfl
                    refine pure_ (i := 22) (N := some 94) (v := ?_) (a' := ?_) #[true, true, true, true, true, true, true, true, true, true, true, true, true, true, true, true, true, true, true, true, true, true, true, false, false, false, false] rfl rfl (any_of HT_.out (by kernel_rfl)) (fun _ _ _ h => h) (Or.inl ⟨by rfl, ?_⟩) ?_ ?_
                    rotate_left
                    · intro w'
                      go_simp
                      with_reducible rfl
                    rotate_left
                    · simp only [Act.put, List.setIfInBounds_toArray, List.set_cons_zero, List.set_cons_succ, i64_w, i32_w]
                      rfl
                    refine pure_ (i := 23) (N := some 95) (v := ?_) (a' := ?_) #[true, true, true, true, true, true, true, true, true, true, true, true, true, true, true, true, true, true, true, true, true, true, true, true, false, false, false] rfl rfl (any_of HT_.out (by kernel_rfl)) (fun _ _ _ h => h) (Or.inl ⟨by rfl, ?_⟩) ?_ ?_
                    rotate_left
                    · intro w'
                      go_simp
                      with_reducible rfl
                    rotate_left
                    · simp only [Act.put, List.setIfInBounds_toArray, List.set_cons_zero, List.set_cons_succ, i64_w, i32_w]
                      rfl
                    refine one_ (i := 24) (N := some 96) #[true, true, true, true, true, true, true, true, true, true, true, true, true, true, true, true, true, true, true, true, true, true, true, true, true, false, false] rfl rfl (one_of HT_.out (by kernel_rfl)) (by decide) (fun K hK => ?_)
                    refine goes_ Try.func18 (by kernel_rfl) rfl #[] (by rfl) rfl rfl (by (try simp only [List.map_toArray, List.map_cons, List.map_nil]); first | done | rfl | (simp only [List.length_drop, List.length_take]; rfl)) ?_
                    with_reducible refine (bellwetherlaw25_known.calls k2  t246 _ A64.out).mono ?_
                    rintro e w70 ⟨rfl, hb⟩
                    refine ⟨_, rfl, ?_⟩
                    have n0_ := Aside0.mk (blk_below (g := gb225) (o := .cells #[.int .i64 a0_0, .int .i64 a0_1, .int .i64 a0_2, .int .i64 a0_3, .int .i64 a0_4, .int .i64 a0_5, .int .i64 a0_6, .int .i64 a0_7, .int .i64 a0_8, .int .i64 a0_9, .slice A0_10 l0_10.length c0_10] 24 (0, 0)) (by (with_reducible repeat (first | refine blk_drewN ?_ _ | refine blk_drew ?_ | refine blk_alloc ?_ _)); exact BK225.out) hb)
                    have n1_ := Aside0.mk (below_step (by repeat (first | (with_reducible first | exact HB.out | apply below_alloc | apply pw_below_drewN | apply below_drew1 | refine below_set ?_ GE225.out) | exact HB.out)) hb)
                    clear BK225
                    clear HB
                    have BK225 := n0_
                    have HB := n1_
                    clear n0_ n1_
                    (try clear hb)
                    (try clear hb2)
                    (try clear hk)
                    (try clear hi)
                    refine hK.out _ _ ⟨(blk_cell BK225.out 0).trans rfl, (blk_cell BK225.out 1).trans rfl, (blk_cell BK225.out 2).trans rfl, (blk_cell BK225.out 3).trans rfl, (blk_cell BK225.out 4).trans rfl, (blk_cell BK225.out 5).trans rfl, (blk_cell BK225.out 6).trans rfl, (blk_cell BK225.out 7).trans rfl, (blk_cell BK225.out 8).trans rfl, (blk_cell BK225.out 9).trans rfl, (blk_cell BK225.out 10).trans rfl⟩ (fun hHeld => ?_)
                    clear hK K
                    refine norm_ (a' := ?_) ?_ ?_
                    rotate_left
                    · show Act.put _ (some 96) _ = _
                      simp only [Act.put, List.setIfInBounds_toArray, List.set_cons_zero, List.set_cons_succ, i64_w, i32_w]
                      rfl
                    refine pure_ (i := 25) (N := some 97) (v := ?_) (a' := ?_) #[true, true, true, true, true, true, true, true, true, true, true, true, true, true, true, true, true, true, true, true, true, true, true, true, true, true, false] rfl rfl (any_of HT_.out (by kernel_rfl)) (fun _ _ _ h => h) (Or.inl ⟨by rfl, ?_⟩) ?_ ?_
                    rotate_left
                    · intro w'
                      go_simp
                      with_reducible rfl
                    rotate_left
                    · simp only [Act.put, List.setIfInBounds_toArray, List.set_cons_zero, List.set_cons_succ, i64_w, i32_w]
                      rfl
                    refine pure_ (i := 26) (N := some 8) (v := ?_) (a' := ?_) #[true, true, true, true, true, true, true, true, true, true, true, true, true, true, true, true, true, true, true, true, true, true, true, true, true, true, true] rfl rfl (any_of HT_.out (by kernel_rfl)) (fun _ _ _ h => h) (Or.inl ⟨by rfl, ?_⟩) ?_ ?_
                    rotate_left
                    · intro w'
                      go_simp
                      with_reducible rfl
                    rotate_left
                    · simp only [Act.put, List.setIfInBounds_toArray, List.set_cons_zero, List.set_cons_succ, i64_w, i32_w]
                      rfl
                    refine done_ (done_of HT_.out (by kernel_rfl)) ?_
                    try go_wp2
                    go_ret
                    exact ⟨by first | rfl | (simp [errW_none, errW_some] <;> rfl) | (simp [*, errW_none, errW_some] <;> rfl), by repeat (first | (with_reducible first | exact HB.out | apply below_alloc | apply pw_below_drewN | apply below_drew1 | refine below_set ?_ GE225.out) | exact HB.out)⟩
                  · rw [if_neg c63] at H
                    have c63b0 : (t244.toList == t245.toList) = false := beq_eq_false_iff_ne.mpr c63
                    have c63b1 : (t244.toList != t245.toList) = true := bne_iff_ne.mpr c63
                    exact absurd H (by simp)
                · rw [if_neg c60] at H
                  have c60b0 : (t231.toList == t243.toList) = false := beq_eq_false_iff_ne.mpr c60
                  have c60b1 : (t231.toList != t243.toList) = true := bne_iff_ne.mpr c60
                  exact absurd H (by simp)
              · rw [if_neg c58] at H
                have c58b0 : ((t230.size : Int) == a0_0) = false := beq_eq_false_iff_ne.mpr c58
                have c58b1 : ((t230.size : Int) != a0_0) = true := bne_iff_ne.mpr c58
                exact absurd H (by simp)
end Go.Proofs.Ytdcknaoamjlaiaa.Gn
