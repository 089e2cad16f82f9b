import Derived.Test.YtdcknaoamjlaiaaZGateOpensGn0
import Derived.Test.YtdcknaoamjlaiaaZGateOpensGn3
import Derived.Test.YtdcknaoamjlaiaaZGateOpensGn6
import Derived.Test.YtdcknaoamjlaiaaZGateOpensGn14
import Derived.Test.YtdcknaoamjlaiaaZGateOpensGn21
import Derived.Test.YtdcknaoamjlaiaaZGateOpensGn33
import Derived.Test.YtdcknaoamjlaiaaZGateOpensGn52
import Derived.Test.YtdcknaoamjlaiaaZGateOpensGn55
import Derived.Test.YtdcknaoamjlaiaaZGateOpensGn58
namespace Go.Proofs.Ytdcknaoamjlaiaa.Gn
open Go.RowKit Go.Proofs.YtdcknaoamjlaiaaW.PrintWords Go.Proofs.YtdcknaoamjlaiaaW.PrintLast Go.Proofs.YtdcknaoamjlaiaaW.PrintMore
attribute [local go_sem] max2_int min2_int max_two min_two max_three min_three max_four min_four   -- for this text's walks alone
set_option linter.unusedVariables false
set_option linter.unusedSimpArgs false
def bellwetherlaw23_GateOpens.j0 : Nat → Int → List Int → Bool → Int → Int → Int → Int → Int → Int → Int → Int → Int → Int → List Int → Int → Int → Int → ByteArray → Int → ByteArray → ByteArray → Int → Int → ByteArray → ByteArray → ByteArray → ByteArray → ByteArray → ByteArray → List (S140) → List ByteArray → List (S142) → Int → Int → Int → Int → Int → Int → Option (Bool)
 | 0, _, _, _, _, _, _, _, _, _, _, _, _, _, _, _, _, _, _, _, _, _, _, _, _, _, _, _, _, _, _, _, _, _, _, _, _, _, _ => none
 | k + 1, x2, x3, x17, x499000, x499001, x499002, x499003, x499004, x499005, x499006, x499007, x499008, x499009, x499010, x500000, x500001, x500002, x500003, x500004, x500005, x500006, x500007, x500008, x500009, x500010, x500011, x500012, x500013, x500014, x500015, x500016, x500017, x500018, x500019, x500020, x500021, x500022, x500023 => if x17 = true then ((bellwetherlaw23_known.f k).bind fun t500 => (some t500)) else ((gate_Sync.f x500000 x500001 x500002 x500003 x500004 x500005 x500006 x500007 x500008 x500009 x500010 x500011 x500012 x500013 x500014 x500015 x500016 x500017 x500018 x500019 x500020 x500021 x500022 x500023).bind fun t501 => ((bellwetherref23_Sync.f x500000 x500001 x500002 x500003 x500004 x500005 x500006 x500007 x500008 x500009 x500010 x500011 x500012 x500013 x500014 x500015 x500016 x500017 x500018 x500019 x500020 x500021 x500022 x500023).bind fun t502 => (if (t501 == t502) = true then ((gate_Mark.f k x500012 x2 x3).bind fun t503 => ((bellwetherref23_Mark.f k x500012 x2 x3).bind fun t504 => (if t503.toList = t504.toList then ((gate_Open.f k x499000 x499001 x499002 x499003 x499004 x499005 x499006 x499007 x499008 x499009 x499010 x500000 x500001 x500002 x500003 x500004 x500005 x500006 x500007 x500008 x500009 x500010 x500011 x500012 x500013 x500014 x500015 x500016 x500017 x500018 x500019 x500020 x500021 x500022 x500023 x2).bind fun t505 => ((bellwetherref23_Open.f k x499000 x499001 x499002 x499003 x499004 x499005 x499006 x499007 x499008 x499009 x499010 x500000 x500001 x500002 x500003 x500004 x500005 x500006 x500007 x500008 x500009 x500010 x500011 x500012 x500013 x500014 x500015 x500016 x500017 x500018 x500019 x500020 x500021 x500022 x500023 x2).bind fun t506 => (if t505 = t506 then ((bellwetherlaw23_known.f k).bind fun t507 => (some t507)) else (none)))) else (none)))) else (none))))
def bellwetherlaw23_GateOpens.f (k : Nat) (a0_0 a0_1 a0_2 a0_3 a0_4 a0_5 a0_6 a0_7 a0_8 a0_9 : Int) (l0_10 : List Int) (a1_0 a1_1 a1_2 : Int) (a1_3 : ByteArray) (a1_4 : Int) (a1_5 a1_6 : ByteArray) (a1_7 a1_8 : Int) (a1_9 a1_10 a1_11 a1_12 a1_13 a1_14 : ByteArray) (l1_15 : List (S140)) (l1_16 : List ByteArray) (l1_17 : List (S142)) (a1_18 a1_19 a1_20 a1_21 a1_22 a1_23 a2 : Int) (l3 : List Int) : Option (Bool) := if (a1_12.size : Int) > 100 then (bellwetherlaw23_GateOpens.j0 k a2 l3 true a0_0 a0_1 a0_2 a0_3 a0_4 a0_5 a0_6 a0_7 a0_8 a0_9 l0_10 a1_0 a1_1 a1_2 a1_3 a1_4 a1_5 a1_6 a1_7 a1_8 a1_9 a1_10 a1_11 a1_12 a1_13 a1_14 l1_15 l1_16 l1_17 a1_18 a1_19 a1_20 a1_21 a1_22 a1_23) else (bellwetherlaw23_GateOpens.j0 k a2 l3 (decide ((l3.length : Int) > 40)) a0_0 a0_1 a0_2 a0_3 a0_4 a0_5 a0_6 a0_7 a0_8 a0_9 l0_10 a1_0 a1_1 a1_2 a1_3 a1_4 a1_5 a1_6 a1_7 a1_8 a1_9 a1_10 a1_11 a1_12 a1_13 a1_14 l1_15 l1_16 l1_17 a1_18 a1_19 a1_20 a1_21 a1_22 a1_23)
def bellwetherlaw23_GateOpens.T3 : Bool × List (List Nat × List Nat) := (true, [([], []), ([0], [0]), ([], []), ([2, 1], [2]), ([1, 3], [1, 3]), ([4, 3], [4]), ([5], [5]), ([6, 5], [5, 6]), ([5], [5]), ([5], [5]), ([7, 8, 9, 5, 5], [5, 7, 8, 9]), ([5], [5]), ([11, 5], [5, 11]), ([5], [5]), ([5], [5]), ([12, 13, 14, 10, 5], [5, 12, 13, 14]), ([10, 15, 5], [5, 10, 15]), ([5, 16], [5, 16]), ([17, 15], [17]), ([18], [18]), ([18], [18]), ([18], [18]), ([19, 20, 21, 18, 18], [18, 19, 20, 21]), ([18], [18]), ([18], [18]), ([18], [18]), ([23, 24, 25, 22, 18], [18, 23, 24, 25]), ([22, 26, 18], [18, 22, 26]), ([18, 27], [18, 27]), ([28, 26], [28]), ([29, 29], [29]), ([29, 30], [29, 30]), ([31, 30, 0, 1, 2, 3, 4, 5, 6, 7, 8, 9, 10, 11, 12, 13, 14, 15, 16, 17, 18, 19, 20, 21, 22, 23, 24, 25, 26, 27, 28, 29, 30, 31], [31])])
def bellwetherlaw23_GateOpens.B3 : List Nat := [0, 1, 0, 7, 15, 31, 63, 127, 63, 63, 1023, 63, 2111, 63, 63, 32767, 65535, 131071, 262143, 524287, 524287, 524287, 4194303, 524287, 524287, 524287, 67108863, 134217727, 268435455, 536870911, 1073741823, 2147483647, 4294967295]
theorem bellwetherlaw23_GateOpens.tab3 : rtab .any (opsOf Try.f10 3) = bellwetherlaw23_GateOpens.T3 := by kernel_rfl
theorem bellwetherlaw23_GateOpens.bits3 : waitsOk bellwetherlaw23_GateOpens.T3.2 bellwetherlaw23_GateOpens.B3 = true := by kernel_rfl
set_option maxHeartbeats 8000000 in
set_option maxRecDepth 100000 in
theorem bellwetherlaw23_GateOpens.calls (k : Nat) (a0_0 a0_1 a0_2 a0_3 a0_4 a0_5 a0_6 a0_7 a0_8 a0_9 : Int) (A0_10 : Option Addr) (c0_10 : Nat) (l0_10 : List Int) (a1_0 a1_1 a1_2 : Int) (a1_3 : ByteArray) (a1_4 : Int) (a1_5 a1_6 : ByteArray) (a1_7 a1_8 : Int) (a1_9 a1_10 a1_11 a1_12 a1_13 a1_14 : ByteArray) (A1_15 : Option Addr) (c1_15 : Nat) (l1_15 : List (S140)) (A1_16 : Option Addr) (c1_16 : Nat) (l1_16 : List ByteArray) (A1_17 : Option Addr) (c1_17 : Nat) (l1_17 : List (S142)) (a1_18 a1_19 a1_20 a1_21 a1_22 a1_23 a2 : Int) (A3 : Option Addr) (c3 : Nat) (l3 : List Int) (r : Bool) (w : World) (hr0_10 : Kd.C (Kd.int .i64) w A0_10 l0_10.length l0_10) (hc0_10 : l0_10.length ≤ c0_10) (hr1_15 : Kd.C k140 w A1_15 l1_15.length l1_15) (hc1_15 : l1_15.length ≤ c1_15) (hr1_16 : Kd.C Kd.string w A1_16 l1_16.length l1_16) (hc1_16 : l1_16.length ≤ c1_16) (hr1_17 : Kd.C k142 w A1_17 l1_17.length l1_17) (hc1_17 : l1_17.length ≤ c1_17) (hr3 : Kd.C (Kd.int .i64) w A3 l3.length l3) (hc3 : l3.length ≤ c3) (h : bellwetherlaw23_GateOpens.f k a0_0 a0_1 a0_2 a0_3 a0_4 a0_5 a0_6 a0_7 a0_8 a0_9 l0_10 a1_0 a1_1 a1_2 a1_3 a1_4 a1_5 a1_6 a1_7 a1_8 a1_9 a1_10 a1_11 a1_12 a1_13 a1_14 l1_15 l1_16 l1_17 a1_18 a1_19 a1_20 a1_21 a1_22 a1_23 a2 l3 = some r) :
  Calls Try.prog 10 #[.agg #[.int .i64 a0_0, .int .i64 a0_1, .int .i64 a0_2, .int .i64 a0_3, .int .i64 a0_4, .int .i64 a0_5, .int .i64 a0_6, .int .i64 a0_7, .int .i64 a0_8, .int .i64 a0_9, .slice A0_10 l0_10.length c0_10], .agg #[.int .i64 a1_0, .int .i64 a1_1, .int .i64 a1_2, .string a1_3, .int .i64 a1_4, .string a1_5, .string a1_6, .int .i64 a1_7, .int .i64 a1_8, .string a1_9, .string a1_10, .string a1_11, .string a1_12, .string a1_13, .string a1_14, .slice A1_15 l1_15.length c1_15, .slice A1_16 l1_16.length c1_16, .slice A1_17 l1_17.length c1_17, .int .i64 a1_18, .int .i64 a1_19, .int .i64 a1_20, .int .i64 a1_21, .int .i64 a1_22, .int .i64 a1_23], .int .i64 a2, .slice A3 l3.length c3] w fun e w' => e = .returned (.bool r) ∧ Below w.heap.size w w' := by
 have HR0_10 := Aside0.mk hr0_10
 have HC0_10 := Aside0.mk hc0_10
 clear hr0_10 hc0_10
 have HR1_15 := Aside0.mk hr1_15
 have HC1_15 := Aside0.mk hc1_15
 clear hr1_15 hc1_15
 have HR1_16 := Aside0.mk hr1_16
 have HC1_16 := Aside0.mk hc1_16
 clear hr1_16 hc1_16
 have HR1_17 := Aside0.mk hr1_17
 have HC1_17 := Aside0.mk hc1_17
 clear hr1_17 hc1_17
 have HR3 := Aside0.mk hr3
 have HC3 := Aside0.mk hc3
 clear hr3 hc3
 have HB := Aside0.mk (Below.refl w.heap.size w)
 have H : (if (a1_12.size : Int) > 100 then (bellwetherlaw23_GateOpens.j0 k a2 l3 true a0_0 a0_1 a0_2 a0_3 a0_4 a0_5 a0_6 a0_7 a0_8 a0_9 l0_10 a1_0 a1_1 a1_2 a1_3 a1_4 a1_5 a1_6 a1_7 a1_8 a1_9 a1_10 a1_11 a1_12 a1_13 a1_14 l1_15 l1_16 l1_17 a1_18 a1_19 a1_20 a1_21 a1_22 a1_23) else (bellwetherlaw23_GateOpens.j0 k a2 l3 (decide ((l3.length : Int) > 40)) a0_0 a0_1 a0_2 a0_3 a0_4 a0_5 a0_6 a0_7 a0_8 a0_9 l0_10 a1_0 a1_1 a1_2 a1_3 a1_4 a1_5 a1_6 a1_7 a1_8 a1_9 a1_10 a1_11 a1_12 a1_13 a1_14 l1_15 l1_16 l1_17 a1_18 a1_19 a1_20 a1_21 a1_22 a1_23)) = some r := h
 clear h
 have HC5 := Aside0.mk H
 clear H
 go_enter Try.func10, Try.ntmps10
 go_upto_region 1 with (first | ((with_reducible refine gate_dst (N := 4) rfl ?_); (try (refine gate_guard (by rfl) ?_; dsimp only)); refine box_event ?hg (N := 4) ?hd (cs := #[.int .i64 a0_0, .int .i64 a0_1, .int .i64 a0_2, .int .i64 a0_3, .int .i64 a0_4, .int .i64 a0_5, .int .i64 a0_6, .int .i64 a0_7, .int .i64 a0_8, .int .i64 a0_9, .slice A0_10 l0_10.length c0_10]) (t := 24) ?hr ?_; (case hd => rfl); (case hg => rfl); (case hr => first | (go_simp; done) | (go_simp; rfl)); intro gb498 hg w6 hbox hb; have n0_ := Aside0.mk (below_step HB.out hb); have n1_ := Aside0.mk (hbox); have n2_ := Aside0.mk ((by rw [hg]; exact (below_size HB.out) : w.heap.size ≤ gb498)); have n3_ := Aside0.mk ((by rw [hg]; exact (below_size HB.out) : w.heap.size ≤ gb498)); clear HB; have HB := n0_; have BK498 := n1_; have GW498 := n2_; have GE498 := n3_; clear n0_ n1_ n2_ n3_; clear hb hbox hg) | ((with_reducible refine gate_dst (N := 5) rfl ?_); (try (refine gate_guard (by rfl) ?_; dsimp only)); refine box_event ?hg (N := 5) ?hd (cs := #[.int .i64 a1_0, .int .i64 a1_1, .int .i64 a1_2, .string a1_3, .int .i64 a1_4, .string a1_5, .string a1_6, .int .i64 a1_7, .int .i64 a1_8, .string a1_9, .string a1_10, .string a1_11, .string a1_12, .string a1_13, .string a1_14, .slice A1_15 l1_15.length c1_15, .slice A1_16 l1_16.length c1_16, .slice A1_17 l1_17.length c1_17, .int .i64 a1_18, .int .i64 a1_19, .int .i64 a1_20, .int .i64 a1_21, .int .i64 a1_22, .int .i64 a1_23]) (t := 44) ?hr ?_; (case hd => rfl); (case hg => rfl); (case hr => first | (go_simp; done) | (go_simp; rfl)); intro gb499 hg w7 hbox hb; have n0_ := Aside0.mk (blk_below BK498.out hb); have n1_ := Aside0.mk (below_step HB.out hb); have n2_ := Aside0.mk (hbox); have n3_ := Aside0.mk ((by rw [hg]; exact (below_size HB.out) : w.heap.size ≤ gb499)); have n4_ := Aside0.mk ((by rw [hg]; exact (below_size HB.out) : w.heap.size ≤ gb499)); have n5_ := Aside0.mk ((by rw [hg]; exact Nat.ne_of_lt (blk_lt BK498.out) : gb498 ≠ gb499)); have n6_ := Aside0.mk ((by rw [hg]; exact Nat.ne_of_gt (blk_lt BK498.out) : gb499 ≠ gb498)); clear BK498; clear HB; have BK498 := n0_; have HB := n1_; have BK499 := n2_; have GW499 := n3_; have GE499 := n4_; have NB498_499 := n5_; have NB499_498 := n6_; clear n0_ n1_ n2_ n3_ n4_ n5_ n6_; clear hb hbox hg))
 (try simp only [Act.put, List.setIfInBounds_toArray, List.set_cons_zero, List.set_cons_succ])
 go_cut [17] (fun v17 wc => ∃ (kq : Nat) (x17_4 : Bool), v17 = .bool x17_4 ∧ Aside0 (bellwetherlaw23_GateOpens.j0 kq a2 l3 x17_4 a0_0 a0_1 a0_2 a0_3 a0_4 a0_5 a0_6 a0_7 a0_8 a0_9 l0_10 a1_0 a1_1 a1_2 a1_3 a1_4 a1_5 a1_6 a1_7 a1_8 a1_9 a1_10 a1_11 a1_12 a1_13 a1_14 l1_15 l1_16 l1_17 a1_18 a1_19 a1_20 a1_21 a1_22 a1_23 = some r) ∧ Aside0 (kq ≤ k) ∧ Aside0 (wc.heap[gb498]? = some (.cells #[.int .i64 a0_0, .int .i64 a0_1, .int .i64 a0_2, .int .i64 a0_3, .int .i64 a0_4, .int .i64 a0_5, .int .i64 a0_6, .int .i64 a0_7, .int .i64 a0_8, .int .i64 a0_9, (.slice A0_10 l0_10.length c0_10)] 24 (0, 0))) ∧ Aside0 (wc.heap[gb499]? = some (.cells #[.int .i64 a1_0, .int .i64 a1_1, .int .i64 a1_2, .string a1_3, .int .i64 a1_4, .string a1_5, .string a1_6, .int .i64 a1_7, .int .i64 a1_8, .string a1_9, .string a1_10, .string a1_11, .string a1_12, .string a1_13, .string a1_14, (.slice A1_15 l1_15.length c1_15), (.slice A1_16 l1_16.length c1_16), (.slice A1_17 l1_17.length c1_17), .int .i64 a1_18, .int .i64 a1_19, .int .i64 a1_20, .int .i64 a1_21, .int .i64 a1_22, .int .i64 a1_23] 44 (0, 0))) ∧ Aside0 (Below w.heap.size w wc))
 case first =>
  have H := HC5.out
  clear HC5
  by_cases c8 : (a1_12.size : Int) > 100
  ·rw [if_pos c8] at H
   have c8b0 : decide (100 < (a1_12.size : Int)) = true := decide_eq_true c8
   have c8b1 : decide (100 < a1_12.size) = true := decide_eq_true (by omega)
   clear c8
   (first | rw [c8b0] | (simp only [i64_w, i32_w]; rw [c8b0]) | skip)
   have H' := Aside0.mk H
   clear H
   have hnb9 := NB499_498.out
   have hnc9 := NB498_499.out
   obtain ⟨hcz10_0, hcz10_1, hcz10_2, hcz10_3, hcz10_4, hcz10_5, hcz10_6, hcz10_7, hcz10_8, hcz10_9, hcz10_10, hcz10_11, hcz10_12, hcz10_13, hcz10_14, hcz10_15, hcz10_16, hcz10_17, hcz10_18, hcz10_19, hcz10_20, hcz10_21, hcz10_22, hcz10_23⟩ := cells_24 BK499.out
   obtain ⟨hfz10_0, hfz10_1, hfz10_2, hfz10_3, hfz10_4, hfz10_5, hfz10_6, hfz10_7, hfz10_8, hfz10_9, hfz10_10, hfz10_11, hfz10_12, hfz10_13, hfz10_14, hfz10_15, hfz10_16, hfz10_17, hfz10_18, hfz10_19, hfz10_20, hfz10_21, hfz10_22, hfz10_23⟩ := frozen_24 BK499.out
   go_wp2
   go_meet
   case rel => exact ⟨_, (true), (by first | rfl | (simp; done) | (simp [*]; done)), H', ⟨by first | omega | exact Nat.le_refl _⟩, ⟨by (with_reducible repeat (first | refine blk_drewN ?_ _ | refine blk_drew ?_ | refine blk_alloc ?_ _)); exact BK498.out⟩, ⟨by (with_reducible repeat (first | refine blk_drewN ?_ _ | refine blk_drew ?_ | refine blk_alloc ?_ _)); exact BK499.out⟩, ⟨by repeat (first | (with_reducible first | exact HB.out | apply below_alloc | apply pw_below_drewN | apply below_drew1 | refine below_set ?_ GE498.out | refine below_set ?_ GE499.out) | exact HB.out)⟩⟩
  ·rw [if_neg c8] at H
   have c8b0 : decide (100 < (a1_12.size : Int)) = false := decide_eq_false c8
   have c8b1 : decide (100 < a1_12.size) = false := decide_eq_false (by omega)
   clear c8
   (first | rw [c8b0] | (simp only [i64_w, i32_w]; rw [c8b0]) | skip)
   have H' := Aside0.mk H
   clear H
   have hnb11 := NB499_498.out
   have hnc11 := NB498_499.out
   obtain ⟨hcz12_0, hcz12_1, hcz12_2, hcz12_3, hcz12_4, hcz12_5, hcz12_6, hcz12_7, hcz12_8, hcz12_9, hcz12_10, hcz12_11, hcz12_12, hcz12_13, hcz12_14, hcz12_15, hcz12_16, hcz12_17, hcz12_18, hcz12_19, hcz12_20, hcz12_21, hcz12_22, hcz12_23⟩ := cells_24 BK499.out
   obtain ⟨hfz12_0, hfz12_1, hfz12_2, hfz12_3, hfz12_4, hfz12_5, hfz12_6, hfz12_7, hfz12_8, hfz12_9, hfz12_10, hfz12_11, hfz12_12, hfz12_13, hfz12_14, hfz12_15, hfz12_16, hfz12_17, hfz12_18, hfz12_19, hfz12_20, hfz12_21, hfz12_22, hfz12_23⟩ := frozen_24 BK499.out
   go_wp2
   go_meet
   case rel => exact ⟨_, (decide ((l3.length : Int) > 40)), (by first | rfl | (simp; done) | (simp [*]; done)), H', ⟨by first | omega | exact Nat.le_refl _⟩, ⟨by (with_reducible repeat (first | refine blk_drewN ?_ _ | refine blk_drew ?_ | refine blk_alloc ?_ _)); exact BK498.out⟩, ⟨by (with_reducible repeat (first | refine blk_drewN ?_ _ | refine blk_drew ?_ | refine blk_alloc ?_ _)); exact BK499.out⟩, ⟨by repeat (first | (with_reducible first | exact HB.out | apply below_alloc | apply pw_below_drewN | apply below_drew1 | refine below_set ?_ GE498.out | refine below_set ?_ GE499.out) | exact HB.out)⟩⟩
 case rest =>
  clear HC5
  try clear c1
  try clear p2
  try clear c3
  try clear c8
  try clear c8b0
  try clear c8b1
  try clear c9
  try clear c10
  try clear c11
  try clear hcz10_0
  try clear hcz10_1
  try clear hcz10_10
  try clear hcz10_11
  try clear hcz10_12
  try clear hcz10_13
  try clear hcz10_14
  try clear hcz10_15
  try clear hcz10_16
  try clear hcz10_17
  try clear hcz10_18
  try clear hcz10_19
  try clear hcz10_2
  try clear hcz10_20
  try clear hcz10_21
  try clear hcz10_22
  try clear hcz10_23
  try clear hcz10_3
  try clear hcz10_4
  try clear hcz10_5
  try clear hcz10_6
  try clear hcz10_7
  try clear hcz10_8
  try clear hcz10_9
  try clear hcz12_0
  try clear hcz12_1
  try clear hcz12_10
  try clear hcz12_11
  try clear hcz12_12
  try clear hcz12_13
  try clear hcz12_14
  try clear hcz12_15
  try clear hcz12_16
  try clear hcz12_17
  try clear hcz12_18
  try clear hcz12_19
  try clear hcz12_2
  try clear hcz12_20
  try clear hcz12_21
  try clear hcz12_22
  try clear hcz12_23
  try clear hcz12_3
  try clear hcz12_4
  try clear hcz12_5
  try clear hcz12_6
  try clear hcz12_7
  try clear hcz12_8
  try clear hcz12_9
  try clear hfz10_0
  try clear hfz10_1
  try clear hfz10_10
  try clear hfz10_11
  try clear hfz10_12
  try clear hfz10_13
  try clear hfz10_14
  try clear hfz10_15
  try clear hfz10_16
  try clear hfz10_17
  try clear hfz10_18
  try clear hfz10_19
  try clear hfz10_2
  try clear hfz10_20
  try clear hfz10_21
  try clear hfz10_22
  try clear hfz10_23
  try clear hfz10_3
  try clear hfz10_4
  try clear hfz10_5
  try clear hfz10_6
  try clear hfz10_7
  try clear hfz10_8
  try clear hfz10_9
  try clear hfz12_0
  try clear hfz12_1
  try clear hfz12_10
  try clear hfz12_11
  try clear hfz12_12
  try clear hfz12_13
  try clear hfz12_14
  try clear hfz12_15
  try clear hfz12_16
  try clear hfz12_17
  try clear hfz12_18
  try clear hfz12_19
  try clear hfz12_2
  try clear hfz12_20
  try clear hfz12_21
  try clear hfz12_22
  try clear hfz12_23
  try clear hfz12_3
  try clear hfz12_4
  try clear hfz12_5
  try clear hfz12_6
  try clear hfz12_7
  try clear hfz12_8
  try clear hfz12_9
  obtain ⟨kq, x17_4, rfl, HA, HJ4, BK498, BK499, HB⟩ := hcut
  cases kq with
  | zero => exact absurd HA.out (by simp [bellwetherlaw23_GateOpens.j0])
  | succ kj4 =>
   have H := HA.out
   clear HA
   simp only [bellwetherlaw23_GateOpens.j0] at H
   by_cases c13 : x17_4 = true
   ·subst c13
    have H1 : ((bellwetherlaw23_known.f kj4).bind fun t500 => (some t500)) = some r := by rw [if_pos rfl] at H; exact H
    clear H
    have H := H1
    clear H1
    replace H := Option.bind_eq_some_iff.mp H
    obtain ⟨t500, A140, H⟩ := H
    replace H : (some t500) = some r := H
    have A14 := Aside0.mk A140
    clear A140
    obtain rfl := Option.some.inj H
    go_wp2_with (first | ((with_reducible refine gate_load (t := 24) (x := .tmp 4) rfl ?_); refine load_row_g (cs := ?_) ?hw 24 (.tmp 4) ?h2 gb498 ?hx 24 (fr := (0, 0)) (d := ?_) ?hg ?h3 ?h4 ?hi ?_; (case hw => first | (with_reducible rfl) | (go_simp; done) | rfl); (case h2 => rfl); (case hx => first | (with_reducible rfl) | (go_simp; done) | rfl); (case hg => exact BK498.out); (case h3 => exact Try.underlying24); (case h4 => rfl); (case hi => kernel_rfl)) | ((with_reducible refine gate_load (t := 44) (x := .tmp 5) rfl ?_); refine load_row_g (cs := ?_) ?hw 44 (.tmp 5) ?h2 gb499 ?hx 44 (fr := (0, 0)) (d := ?_) ?hg ?h3 ?h4 ?hi ?_; (case hw => first | (with_reducible rfl) | (go_simp; done) | rfl); (case h2 => rfl); (case hx => first | (with_reducible rfl) | (go_simp; done) | rfl); (case hg => exact BK499.out); (case h3 => exact Try.underlying44); (case h4 => rfl); (case hi => kernel_rfl)) | ((with_reducible refine gate_callee (f := 46) rfl ?_); refine goesL_ (some 18) rfl rfl Try.func46 (by kernel_rfl) rfl #[] rfl (by (try simp only [List.map_toArray, List.map_cons, List.map_nil]); first | done | rfl | (simp only [List.length_drop, List.length_take]; rfl)) ?_; (with_reducible refine (bellwetherlaw23_known.calls kj4  t500 _ A14.out).mono ?_); rintro e w15 ⟨rfl, hb⟩; refine ⟨_, rfl, ?_⟩; have n0_ := Aside0.mk (blk_below BK498.out hb); have n1_ := Aside0.mk (blk_below BK499.out hb); have n2_ := Aside0.mk (below_step HB.out hb); clear BK498; clear BK499; clear HB; have BK498 := n0_; have BK499 := n1_; have HB := n2_; clear n0_ n1_ n2_; (try clear hb); (try clear hb2); (try clear hk); (try clear hi)))
    go_ret
    exact ⟨by first | rfl | (simp [errW_none, errW_some] <;> rfl) | (simp [*, errW_none, errW_some] <;> rfl), by repeat (first | (with_reducible first | exact HB.out | apply below_alloc | apply pw_below_drewN | apply below_drew1 | refine below_set ?_ GE498.out | refine below_set ?_ GE499.out) | exact HB.out)⟩
   ·replace c13 := Bool.eq_false_iff.mpr c13
    subst c13
    have H1 : ((gate_Sync.f a1_0 a1_1 a1_2 a1_3 a1_4 a1_5 a1_6 a1_7 a1_8 a1_9 a1_10 a1_11 a1_12 a1_13 a1_14 l1_15 l1_16 l1_17 a1_18 a1_19 a1_20 a1_21 a1_22 a1_23).bind fun t501 => ((bellwetherref23_Sync.f a1_0 a1_1 a1_2 a1_3 a1_4 a1_5 a1_6 a1_7 a1_8 a1_9 a1_10 a1_11 a1_12 a1_13 a1_14 l1_15 l1_16 l1_17 a1_18 a1_19 a1_20 a1_21 a1_22 a1_23).bind fun t502 => (if (t501 == t502) = true then ((gate_Mark.f kj4 a1_12 a2 l3).bind fun t503 => ((bellwetherref23_Mark.f kj4 a1_12 a2 l3).bind fun t504 => (if t503.toList = t504.toList then ((gate_Open.f kj4 a0_0 a0_1 a0_2 a0_3 a0_4 a0_5 a0_6 a0_7 a0_8 a0_9 l0_10 a1_0 a1_1 a1_2 a1_3 a1_4 a1_5 a1_6 a1_7 a1_8 a1_9 a1_10 a1_11 a1_12 a1_13 a1_14 l1_15 l1_16 l1_17 a1_18 a1_19 a1_20 a1_21 a1_22 a1_23 a2).bind fun t505 => ((bellwetherref23_Open.f kj4 a0_0 a0_1 a0_2 a0_3 a0_4 a0_5 a0_6 a0_7 a0_8 a0_9 l0_10 a1_0 a1_1 a1_2 a1_3 a1_4 a1_5 a1_6 a1_7 a1_8 a1_9 a1_10 a1_11 a1_12 a1_13 a1_14 l1_15 l1_16 l1_17 a1_18 a1_19 a1_20 a1_21 a1_22 a1_23 a2).bind fun t506 => (if t505 = t506 then ((bellwetherlaw23_known.f kj4).bind fun t507 => (some t507)) else (none)))) else (none)))) else (none)))) = some r := by rw [if_neg (show ¬ (false = true) by decide)] at H; exact H
    clear H
    have H := H1
    clear H1
    replace H := Option.bind_eq_some_iff.mp H
    obtain ⟨t501, A160, H⟩ := H
    replace H : ((bellwetherref23_Sync.f a1_0 a1_1 a1_2 a1_3 a1_4 a1_5 a1_6 a1_7 a1_8 a1_9 a1_10 a1_11 a1_12 a1_13 a1_14 l1_15 l1_16 l1_17 a1_18 a1_19 a1_20 a1_21 a1_22 a1_23).bind fun t502 => (if (t501 == t502) = true then ((gate_Mark.f kj4 a1_12 a2 l3).bind fun t503 => ((bellwetherref23_Mark.f kj4 a1_12 a2 l3).bind fun t504 => (if t503.toList = t504.toList then ((gate_Open.f kj4 a0_0 a0_1 a0_2 a0_3 a0_4 a0_5 a0_6 a0_7 a0_8 a0_9 l0_10 a1_0 a1_1 a1_2 a1_3 a1_4 a1_5 a1_6 a1_7 a1_8 a1_9 a1_10 a1_11 a1_12 a1_13 a1_14 l1_15 l1_16 l1_17 a1_18 a1_19 a1_20 a1_21 a1_22 a1_23 a2).bind fun t505 => ((bellwetherref23_Open.f kj4 a0_0 a0_1 a0_2 a0_3 a0_4 a0_5 a0_6 a0_7 a0_8 a0_9 l0_10 a1_0 a1_1 a1_2 a1_3 a1_4 a1_5 a1_6 a1_7 a1_8 a1_9 a1_10 a1_11 a1_12 a1_13 a1_14 l1_15 l1_16 l1_17 a1_18 a1_19 a1_20 a1_21 a1_22 a1_23 a2).bind fun t506 => (if t505 = t506 then ((bellwetherlaw23_known.f kj4).bind fun t507 => (some t507)) else (none)))) else (none)))) else (none))) = some r := H
    have A16 := Aside0.mk A160
    clear A160
    replace H := Option.bind_eq_some_iff.mp H
    obtain ⟨t502, A170, H⟩ := H
    replace H : (if (t501 == t502) = true then ((gate_Mark.f kj4 a1_12 a2 l3).bind fun t503 => ((bellwetherref23_Mark.f kj4 a1_12 a2 l3).bind fun t504 => (if t503.toList = t504.toList then ((gate_Open.f kj4 a0_0 a0_1 a0_2 a0_3 a0_4 a0_5 a0_6 a0_7 a0_8 a0_9 l0_10 a1_0 a1_1 a1_2 a1_3 a1_4 a1_5 a1_6 a1_7 a1_8 a1_9 a1_10 a1_11 a1_12 a1_13 a1_14 l1_15 l1_16 l1_17 a1_18 a1_19 a1_20 a1_21 a1_22 a1_23 a2).bind fun t505 => ((bellwetherref23_Open.f kj4 a0_0 a0_1 a0_2 a0_3 a0_4 a0_5 a0_6 a0_7 a0_8 a0_9 l0_10 a1_0 a1_1 a1_2 a1_3 a1_4 a1_5 a1_6 a1_7 a1_8 a1_9 a1_10 a1_11 a1_12 a1_13 a1_14 l1_15 l1_16 l1_17 a1_18 a1_19 a1_20 a1_21 a1_22 a1_23 a2).bind fun t506 => (if t505 = t506 then ((bellwetherlaw23_known.f kj4).bind fun t507 => (some t507)) else (none)))) else (none)))) else (none)) = some r := H
    have A17 := Aside0.mk A170
    clear A170
    by_cases c18 : (t501 == t502) = true
    ·rw [if_pos c18] at H
     have c18b0 : (t501 == t502) = true := c18
     (try (have c18b1 : decide (t501 = t502) = true := by simpa using c18))
     (try (have c18b2 : (t501 == t502) = true := by simpa using c18))
     clear c18
     replace H := Option.bind_eq_some_iff.mp H
     obtain ⟨t503, A190, H⟩ := H
     replace H : ((bellwetherref23_Mark.f kj4 a1_12 a2 l3).bind fun t504 => (if t503.toList = t504.toList then ((gate_Open.f kj4 a0_0 a0_1 a0_2 a0_3 a0_4 a0_5 a0_6 a0_7 a0_8 a0_9 l0_10 a1_0 a1_1 a1_2 a1_3 a1_4 a1_5 a1_6 a1_7 a1_8 a1_9 a1_10 a1_11 a1_12 a1_13 a1_14 l1_15 l1_16 l1_17 a1_18 a1_19 a1_20 a1_21 a1_22 a1_23 a2).bind fun t505 => ((bellwetherref23_Open.f kj4 a0_0 a0_1 a0_2 a0_3 a0_4 a0_5 a0_6 a0_7 a0_8 a0_9 l0_10 a1_0 a1_1 a1_2 a1_3 a1_4 a1_5 a1_6 a1_7 a1_8 a1_9 a1_10 a1_11 a1_12 a1_13 a1_14 l1_15 l1_16 l1_17 a1_18 a1_19 a1_20 a1_21 a1_22 a1_23 a2).bind fun t506 => (if t505 = t506 then ((bellwetherlaw23_known.f kj4).bind fun t507 => (some t507)) else (none)))) else (none))) = some r := H
     have A19 := Aside0.mk A190
     clear A190
     replace H := Option.bind_eq_some_iff.mp H
     obtain ⟨t504, A200, H⟩ := H
     replace H : (if t503.toList = t504.toList then ((gate_Open.f kj4 a0_0 a0_1 a0_2 a0_3 a0_4 a0_5 a0_6 a0_7 a0_8 a0_9 l0_10 a1_0 a1_1 a1_2 a1_3 a1_4 a1_5 a1_6 a1_7 a1_8 a1_9 a1_10 a1_11 a1_12 a1_13 a1_14 l1_15 l1_16 l1_17 a1_18 a1_19 a1_20 a1_21 a1_22 a1_23 a2).bind fun t505 => ((bellwetherref23_Open.f kj4 a0_0 a0_1 a0_2 a0_3 a0_4 a0_5 a0_6 a0_7 a0_8 a0_9 l0_10 a1_0 a1_1 a1_2 a1_3 a1_4 a1_5 a1_6 a1_7 a1_8 a1_9 a1_10 a1_11 a1_12 a1_13 a1_14 l1_15 l1_16 l1_17 a1_18 a1_19 a1_20 a1_21 a1_22 a1_23 a2).bind fun t506 => (if t505 = t506 then ((bellwetherlaw23_known.f kj4).bind fun t507 => (some t507)) else (none)))) else (none)) = some r := H
     have A20 := Aside0.mk A200
     clear A200
     by_cases c21 : t503.toList = t504.toList
     ·rw [if_pos c21] at H
      have c21b0 : (t503.toList == t504.toList) = true := beq_iff_eq.mpr c21
      have c21b1 : (t503.toList != t504.toList) = false := bne_eq_false_iff_eq.mpr c21
      clear c21
      replace H := Option.bind_eq_some_iff.mp H
      obtain ⟨t505, A220, H⟩ := H
      replace H : ((bellwetherref23_Open.f kj4 a0_0 a0_1 a0_2 a0_3 a0_4 a0_5 a0_6 a0_7 a0_8 a0_9 l0_10 a1_0 a1_1 a1_2 a1_3 a1_4 a1_5 a1_6 a1_7 a1_8 a1_9 a1_10 a1_11 a1_12 a1_13 a1_14 l1_15 l1_16 l1_17 a1_18 a1_19 a1_20 a1_21 a1_22 a1_23 a2).bind fun t506 => (if t505 = t506 then ((bellwetherlaw23_known.f kj4).bind fun t507 => (some t507)) else (none))) = some r := H
      have A22 := Aside0.mk A220
      clear A220
      replace H := Option.bind_eq_some_iff.mp H
      obtain ⟨t506, A230, H⟩ := H
      replace H : (if t505 = t506 then ((bellwetherlaw23_known.f kj4).bind fun t507 => (some t507)) else (none)) = some r := H
      have A23 := Aside0.mk A230
      clear A230
      by_cases c24 : t505 = t506
      ·rw [if_pos c24] at H
       have c24b0 : (t505 == t506) = true := beq_iff_eq.mpr c24
       have c24b1 : (t505 != t506) = false := bne_eq_false_iff_eq.mpr c24
       clear c24
       replace H := Option.bind_eq_some_iff.mp H
       obtain ⟨t507, A250, H⟩ := H
       replace H : (some t507) = some r := H
       have A25 := Aside0.mk A250
       clear A250
       obtain rfl := Option.some.inj H
       try go_wp2
       have n0_ := Aside0.mk (blk_drew BK498.out)
       have n1_ := Aside0.mk (blk_drew BK499.out)
       have n2_ := Aside0.mk (below_drew1 HB.out)
       clear BK498
       clear BK499
       clear HB
       have BK498 := n0_
       have BK499 := n1_
       have HB := n2_
       clear n0_ n1_ n2_
       refine start_ (n := 33) (S := fun w' => w'.cell? ⟨gb499, 0, none⟩ = some (.int .i64 a1_0) ∧ w'.cell? ⟨gb499, 1, none⟩ = some (.int .i64 a1_1) ∧ w'.cell? ⟨gb499, 2, none⟩ = some (.int .i64 a1_2) ∧ w'.cell? ⟨gb499, 3, none⟩ = some (.string a1_3) ∧ w'.cell? ⟨gb499, 4, none⟩ = some (.int .i64 a1_4) ∧ w'.cell? ⟨gb499, 5, none⟩ = some (.string a1_5) ∧ w'.cell? ⟨gb499, 6, none⟩ = some (.string a1_6) ∧ w'.cell? ⟨gb499, 7, none⟩ = some (.int .i64 a1_7) ∧ w'.cell? ⟨gb499, 8, none⟩ = some (.int .i64 a1_8) ∧ w'.cell? ⟨gb499, 9, none⟩ = some (.string a1_9) ∧ w'.cell? ⟨gb499, 10, none⟩ = some (.string a1_10) ∧ w'.cell? ⟨gb499, 11, none⟩ = some (.string a1_11) ∧ w'.cell? ⟨gb499, 12, none⟩ = some (.string a1_12) ∧ w'.cell? ⟨gb499, 13, none⟩ = some (.string a1_13) ∧ w'.cell? ⟨gb499, 14, none⟩ = some (.string a1_14) ∧ w'.cell? ⟨gb499, 15, none⟩ = some (.slice A1_15 l1_15.length c1_15) ∧ w'.cell? ⟨gb499, 16, none⟩ = some (.slice A1_16 l1_16.length c1_16) ∧ w'.cell? ⟨gb499, 17, none⟩ = some (.slice A1_17 l1_17.length c1_17) ∧ w'.cell? ⟨gb499, 18, none⟩ = some (.int .i64 a1_18) ∧ w'.cell? ⟨gb499, 19, none⟩ = some (.int .i64 a1_19) ∧ w'.cell? ⟨gb499, 20, none⟩ = some (.int .i64 a1_20) ∧ w'.cell? ⟨gb499, 21, none⟩ = some (.int .i64 a1_21) ∧ w'.cell? ⟨gb499, 22, none⟩ = some (.int .i64 a1_22) ∧ w'.cell? ⟨gb499, 23, none⟩ = some (.int .i64 a1_23) ∧ w'.cell? ⟨gb498, 0, none⟩ = some (.int .i64 a0_0) ∧ w'.cell? ⟨gb498, 1, none⟩ = some (.int .i64 a0_1) ∧ w'.cell? ⟨gb498, 2, none⟩ = some (.int .i64 a0_2) ∧ w'.cell? ⟨gb498, 3, none⟩ = some (.int .i64 a0_3) ∧ w'.cell? ⟨gb498, 4, none⟩ = some (.int .i64 a0_4) ∧ w'.cell? ⟨gb498, 5, none⟩ = some (.int .i64 a0_5) ∧ w'.cell? ⟨gb498, 6, none⟩ = some (.int .i64 a0_6) ∧ w'.cell? ⟨gb498, 7, none⟩ = some (.int .i64 a0_7) ∧ w'.cell? ⟨gb498, 8, none⟩ = some (.int .i64 a0_8) ∧ w'.cell? ⟨gb498, 9, none⟩ = some (.int .i64 a0_9) ∧ w'.cell? ⟨gb498, 10, none⟩ = some (.slice A0_10 l0_10.length c0_10)) (ds := []) #[false, false, false, false, false, false, false, false, false, false, false, false, false, false, false, false, false, false, false, false, false, false, false, false, false, false, false, false, false, false, false, false, false] (by kernel_rfl) rfl rfl ⟨(blk_cell BK499.out 0).trans rfl, (blk_cell BK499.out 1).trans rfl, (blk_cell BK499.out 2).trans rfl, (blk_cell BK499.out 3).trans rfl, (blk_cell BK499.out 4).trans rfl, (blk_cell BK499.out 5).trans rfl, (blk_cell BK499.out 6).trans rfl, (blk_cell BK499.out 7).trans rfl, (blk_cell BK499.out 8).trans rfl, (blk_cell BK499.out 9).trans rfl, (blk_cell BK499.out 10).trans rfl, (blk_cell BK499.out 11).trans rfl, (blk_cell BK499.out 12).trans rfl, (blk_cell BK499.out 13).trans rfl, (blk_cell BK499.out 14).trans rfl, (blk_cell BK499.out 15).trans rfl, (blk_cell BK499.out 16).trans rfl, (blk_cell BK499.out 17).trans rfl, (blk_cell BK499.out 18).trans rfl, (blk_cell BK499.out 19).trans rfl, (blk_cell BK499.out 20).trans rfl, (blk_cell BK499.out 21).trans rfl, (blk_cell BK499.out 22).trans rfl, (blk_cell BK499.out 23).trans rfl, (blk_cell BK498.out 0).trans rfl, (blk_cell BK498.out 1).trans rfl, (blk_cell BK498.out 2).trans rfl, (blk_cell BK498.out 3).trans rfl, (blk_cell BK498.out 4).trans rfl, (blk_cell BK498.out 5).trans rfl, (blk_cell BK498.out 6).trans rfl, (blk_cell BK498.out 7).trans rfl, (blk_cell BK498.out 8).trans rfl, (blk_cell BK498.out 9).trans rfl, (blk_cell BK498.out 10).trans rfl⟩ (fun hHeld => ?_); refine with_tabW bellwetherlaw23_GateOpens.tab3 bellwetherlaw23_GateOpens.bits3 (fun HT_ HW_ => ?_)
       generalize wc.drew = w26 at BK498 BK499 HB hHeld ⊢
       refine take_ (i := 0) (N := some 19) (v := ?_) (a' := ?_) #[true, false, false, false, false, false, false, false, false, false, false, false, false, false, false, false, false, false, false, false, false, false, false, false, false, false, false, false, false, false, false, false, false] rfl rfl (take_ofW HT_.out HW_.out (by kernel_rfl)) (fun _ _ _ h => h) (Or.inl ⟨by rfl, ?_⟩) hHeld ?_ ?_
       rotate_left
       ·rintro w' ⟨s0, s1, s2, s3, s4, s5, s6, s7, s8, s9, s10, s11, s12, s13, s14, s15, s16, s17, s18, s19, s20, s21, s22, s23, s24, s25, s26, s27, s28, s29, s30, s31, s32, s33, s34⟩
        (first | (refine load_cells_11 (ty := 24) (x := .tmp 4) (g := gb498) ?hlo_ ?hx_ Try.underlying24 ?hd_ ?hi_ s24 s25 s26 s27 s28 s29 s30 s31 s32 s33 s34; (case hlo_ => rfl); (case hx_ => rfl); (case hd_ => rfl); (case hi_ => kernel_rfl)) | (refine load_cells_24 (ty := 44) (x := .tmp 5) (g := gb499) ?hlo_ ?hx_ Try.underlying44 ?hd_ ?hi_ s0 s1 s2 s3 s4 s5 s6 s7 s8 s9 s10 s11 s12 s13 s14 s15 s16 s17 s18 s19 s20 s21 s22 s23; (case hlo_ => rfl); (case hx_ => rfl); (case hd_ => rfl); (case hi_ => kernel_rfl)) | (go_simp; with_reducible rfl))
       rotate_left
       ·simp only [Act.put, List.setIfInBounds_toArray, List.set_cons_zero, List.set_cons_succ, i64_w, i32_w]
        rfl
       refine take_ (i := 2) (N := some 21) (v := ?_) (a' := ?_) #[true, false, true, false, false, false, false, false, false, false, false, false, false, false, false, false, false, false, false, false, false, false, false, false, false, false, false, false, false, false, false, false, false] rfl rfl (take_ofW HT_.out HW_.out (by kernel_rfl)) (fun _ _ _ h => h) (Or.inl ⟨by rfl, ?_⟩) hHeld ?_ ?_
       rotate_left
       ·rintro w' ⟨s0, s1, s2, s3, s4, s5, s6, s7, s8, s9, s10, s11, s12, s13, s14, s15, s16, s17, s18, s19, s20, s21, s22, s23, s24, s25, s26, s27, s28, s29, s30, s31, s32, s33, s34⟩
        (first | (refine load_cells_11 (ty := 24) (x := .tmp 4) (g := gb498) ?hlo_ ?hx_ Try.underlying24 ?hd_ ?hi_ s24 s25 s26 s27 s28 s29 s30 s31 s32 s33 s34; (case hlo_ => rfl); (case hx_ => rfl); (case hd_ => rfl); (case hi_ => kernel_rfl)) | (refine load_cells_24 (ty := 44) (x := .tmp 5) (g := gb499) ?hlo_ ?hx_ Try.underlying44 ?hd_ ?hi_ s0 s1 s2 s3 s4 s5 s6 s7 s8 s9 s10 s11 s12 s13 s14 s15 s16 s17 s18 s19 s20 s21 s22 s23; (case hlo_ => rfl); (case hx_ => rfl); (case hd_ => rfl); (case hi_ => kernel_rfl)) | (go_simp; with_reducible rfl))
       rotate_left
       ·simp only [Act.put, List.setIfInBounds_toArray, List.set_cons_zero, List.set_cons_succ, i64_w, i32_w]
        rfl
       refine one_ (i := 1) (N := some 20) #[true, true, true, false, false, false, false, false, false, false, false, false, false, false, false, false, false, false, false, false, false, false, false, false, false, false, false, false, false, false, false, false, false] rfl rfl (one_of HT_.out (by kernel_rfl)) (by decide) (fun K hK => ?_)
       refine goes_ Try.func47 (by kernel_rfl) rfl #[.agg #[.int .i64 a1_0, .int .i64 a1_1, .int .i64 a1_2, .string a1_3, .int .i64 a1_4, .string a1_5, .string a1_6, .int .i64 a1_7, .int .i64 a1_8, .string a1_9, .string a1_10, .string a1_11, .string a1_12, .string a1_13, .string a1_14, .slice A1_15 l1_15.length c1_15, .slice A1_16 l1_16.length c1_16, .slice A1_17 l1_17.length c1_17, .int .i64 a1_18, .int .i64 a1_19, .int .i64 a1_20, .int .i64 a1_21, .int .i64 a1_22, .int .i64 a1_23]] (by rfl) rfl rfl (by (try simp only [List.map_toArray, List.map_cons, List.map_nil]); first | done | rfl | (simp only [List.length_drop, List.length_take]; rfl)) ?_
       with_reducible refine (gate_Sync.calls a1_0 a1_1 a1_2 a1_3 a1_4 a1_5 a1_6 a1_7 a1_8 a1_9 a1_10 a1_11 a1_12 a1_13 a1_14 _ _ l1_15 _ _ l1_16 _ _ l1_17 a1_18 a1_19 a1_20 a1_21 a1_22 a1_23 t501 _ ?side1 ?side2 ?side3 ?side4 ?side5 ?side6 A16.out).mono ?_
       (case side1 => exact (Kd.C_below HR1_15.out HB.out))
       (case side2 => exact HC1_15.out)
       (case side3 => exact (Kd.C_below HR1_16.out HB.out))
       (case side4 => exact HC1_16.out)
       (case side5 => exact (Kd.C_below HR1_17.out HB.out))
       (case side6 => exact HC1_17.out)
       rintro e w27 ⟨rfl, hb⟩
       refine ⟨_, rfl, ?_⟩
       have n0_ := Aside0.mk (blk_below BK498.out hb)
       have n1_ := Aside0.mk (blk_below BK499.out hb)
       have n2_ := Aside0.mk (below_step HB.out hb)
       clear BK498
       clear BK499
       clear HB
       have BK498 := n0_
       have BK499 := n1_
       have HB := n2_
       clear n0_ n1_ n2_
       (try clear hb)
       (try clear hb2)
       (try clear hk)
       (try clear hi)
       refine hK.out _ _ (and_24 BK499.out (cells_11 BK498.out)) (fun hHeld => ?_)
       clear hK K
       refine norm_ (a' := ?_) ?_ ?_
       rotate_left
       ·show Act.put _ (some 20) _ = _
        simp only [Act.put, List.setIfInBounds_toArray, List.set_cons_zero, List.set_cons_succ, i64_w, i32_w]
        rfl
       refine one_ (i := 3) (N := some 22) #[true, true, true, true, false, false, false, false, false, false, false, false, false, false, false, false, false, false, false, false, false, false, false, false, false, false, false, false, false, false, false, false, false] rfl rfl (one_of HT_.out (by kernel_rfl)) (by decide) (fun K hK => ?_)
       refine goes_ Try.func48 (by kernel_rfl) rfl #[.agg #[.int .i64 a1_0, .int .i64 a1_1, .int .i64 a1_2, .string a1_3, .int .i64 a1_4, .string a1_5, .string a1_6, .int .i64 a1_7, .int .i64 a1_8, .string a1_9, .string a1_10, .string a1_11, .string a1_12, .string a1_13, .string a1_14, .slice A1_15 l1_15.length c1_15, .slice A1_16 l1_16.length c1_16, .slice A1_17 l1_17.length c1_17, .int .i64 a1_18, .int .i64 a1_19, .int .i64 a1_20, .int .i64 a1_21, .int .i64 a1_22, .int .i64 a1_23]] (by rfl) rfl rfl (by (try simp only [List.map_toArray, List.map_cons, List.map_nil]); first | done | rfl | (simp only [List.length_drop, List.length_take]; rfl)) ?_
       with_reducible refine (bellwetherref23_Sync.calls a1_0 a1_1 a1_2 a1_3 a1_4 a1_5 a1_6 a1_7 a1_8 a1_9 a1_10 a1_11 a1_12 a1_13 a1_14 _ _ l1_15 _ _ l1_16 _ _ l1_17 a1_18 a1_19 a1_20 a1_21 a1_22 a1_23 t502 _ ?side1 ?side2 ?side3 ?side4 ?side5 ?side6 A17.out).mono ?_
       (case side1 => exact (Kd.C_below HR1_15.out HB.out))
       (case side2 => exact HC1_15.out)
       (case side3 => exact (Kd.C_below HR1_16.out HB.out))
       (case side4 => exact HC1_16.out)
       (case side5 => exact (Kd.C_below HR1_17.out HB.out))
       (case side6 => exact HC1_17.out)
       rintro e w28 ⟨rfl, hb⟩
       refine ⟨_, rfl, ?_⟩
       have n0_ := Aside0.mk (blk_below BK498.out hb)
       have n1_ := Aside0.mk (blk_below BK499.out hb)
       have n2_ := Aside0.mk (below_step HB.out hb)
       clear BK498
       clear BK499
       clear HB
       have BK498 := n0_
       have BK499 := n1_
       have HB := n2_
       clear n0_ n1_ n2_
       (try clear hb)
       (try clear hb2)
       (try clear hk)
       (try clear hi)
       refine hK.out _ _ (and_24 BK499.out (cells_11 BK498.out)) (fun hHeld => ?_)
       clear hK K
       refine norm_ (a' := ?_) ?_ ?_
       rotate_left
       ·show Act.put _ (some 22) _ = _
        simp only [Act.put, List.setIfInBounds_toArray, List.set_cons_zero, List.set_cons_succ, i64_w, i32_w]
        rfl
       refine pure_ (i := 4) (N := some 23) (v := ?_) (a' := ?_) #[true, true, true, true, true, false, false, false, false, false, false, false, false, false, false, false, false, false, false, false, false, false, false, false, false, false, false, false, false, false, false, false, false] rfl rfl (any_of HT_.out (by kernel_rfl)) (fun _ _ _ h => h) (Or.inl ⟨by rfl, ?_⟩) ?_ ?_
       rotate_left
       ·intro w'
        go_simp
        with_reducible rfl
       rotate_left
       ·simp only [Act.put, List.setIfInBounds_toArray, List.set_cons_zero, List.set_cons_succ, i64_w, i32_w]
        rfl
       refine pure_ (i := 5) (N := some 24) (v := ?_) (a' := ?_) #[true, true, true, true, true, true, false, false, false, false, false, false, false, false, false, false, false, false, false, false, false, false, false, false, false, false, false, false, false, false, false, false, false] rfl rfl (any_of HT_.out (by kernel_rfl)) (fun _ _ _ h => h) (Or.inl ⟨by rfl, ?_⟩) ?_ ?_
       rotate_left
       ·intro w'
        go_simp
        with_reducible rfl
       rotate_left
       ·simp only [Act.put, List.setIfInBounds_toArray, List.set_cons_zero, List.set_cons_succ, i64_w, i32_w]
        rfl
       refine pure_ (i := 6) (N := some 25) (v := ?_) (a' := ?_) #[true, true, true, true, true, true, true, false, false, false, false, false, false, false, false, false, false, false, false, false, false, false, false, false, false, false, false, false, false, false, false, false, false] rfl rfl (any_of HT_.out (by kernel_rfl)) (fun _ _ _ h => h) (Or.inl ⟨by rfl, ?_⟩) ?_ ?_
       rotate_left
       ·intro w'
        go_simp
        with_reducible rfl
       rotate_left
       ·simp only [Act.put, List.setIfInBounds_toArray, List.set_cons_zero, List.set_cons_succ, i64_w, i32_w]
        rfl
       refine pure_ (i := 8) (N := some 27) (v := ?_) (a' := ?_) #[true, true, true, true, true, true, true, false, true, false, false, false, false, false, false, false, false, false, false, false, false, false, false, false, false, false, false, false, false, false, false, false, false] rfl rfl (any_of HT_.out (by kernel_rfl)) (fun _ _ _ h => h) (Or.inl ⟨by rfl, ?_⟩) ?_ ?_
       rotate_left
       ·intro w'
        go_simp
        with_reducible rfl
       rotate_left
       ·simp only [Act.put, List.setIfInBounds_toArray, List.set_cons_zero, List.set_cons_succ, i64_w, i32_w]
        rfl
       refine pure_ (i := 9) (N := some 28) (v := ?_) (a' := ?_) #[true, true, true, true, true, true, true, false, true, true, false, false, false, false, false, false, false, false, false, false, false, false, false, false, false, false, false, false, false, false, false, false, false] rfl rfl (any_of HT_.out (by kernel_rfl)) (fun _ _ _ h => h) (Or.inl ⟨by rfl, ?_⟩) ?_ ?_
       rotate_left
       ·intro w'
        go_simp
        with_reducible rfl
       rotate_left
       ·simp only [Act.put, List.setIfInBounds_toArray, List.set_cons_zero, List.set_cons_succ, i64_w, i32_w]
        rfl
       refine pure_ (i := 11) (N := some 30) (v := ?_) (a' := ?_) #[true, true, true, true, true, true, true, false, true, true, false, true, false, false, false, false, false, false, false, false, false, false, false, false, false, false, false, false, false, false, false, false, false] rfl rfl (any_of HT_.out (by kernel_rfl)) (fun _ _ _ h => h) (Or.inl ⟨by rfl, ?_⟩) ?_ ?_
       rotate_left
       ·intro w'
        go_simp
        with_reducible rfl
       rotate_left
       ·simp only [Act.put, List.setIfInBounds_toArray, List.set_cons_zero, List.set_cons_succ, i64_w, i32_w]
        rfl
       refine pure_ (i := 13) (N := some 32) (v := ?_) (a' := ?_) #[true, true, true, true, true, true, true, false, true, true, false, true, false, true, false, false, false, false, false, false, false, false, false, false, false, false, false, false, false, false, false, false, false] rfl rfl (any_of HT_.out (by kernel_rfl)) (fun _ _ _ h => h) (Or.inl ⟨by rfl, ?_⟩) ?_ ?_
       rotate_left
       ·intro w'
        go_simp
        with_reducible rfl
       rotate_left
       ·simp only [Act.put, List.setIfInBounds_toArray, List.set_cons_zero, List.set_cons_succ, i64_w, i32_w]
        rfl
       refine pure_ (i := 14) (N := some 33) (v := ?_) (a' := ?_) #[true, true, true, true, true, true, true, false, true, true, false, true, false, true, true, false, false, false, false, false, false, false, false, false, false, false, false, false, false, false, false, false, false] rfl rfl (any_of HT_.out (by kernel_rfl)) (fun _ _ _ h => h) (Or.inl ⟨by rfl, ?_⟩) ?_ ?_
       rotate_left
       ·intro w'
        go_simp
        with_reducible rfl
       rotate_left
       ·simp only [Act.put, List.setIfInBounds_toArray, List.set_cons_zero, List.set_cons_succ, i64_w, i32_w]
        rfl
       refine take_ (i := 7) (N := some 26) (v := ?_) (a' := ?_) #[true, true, true, true, true, true, true, true, true, true, false, true, false, true, true, false, false, false, false, false, false, false, false, false, false, false, false, false, false, false, false, false, false] rfl rfl (take_ofW HT_.out HW_.out (by kernel_rfl)) (fun _ _ _ h => h) (Or.inl ⟨by rfl, ?_⟩) hHeld ?_ ?_
       rotate_left
       ·rintro w' ⟨s0, s1, s2, s3, s4, s5, s6, s7, s8, s9, s10, s11, s12, s13, s14, s15, s16, s17, s18, s19, s20, s21, s22, s23, s24, s25, s26, s27, s28, s29, s30, s31, s32, s33, s34⟩
        (first | (refine load_cells_11 (ty := 24) (x := .tmp 4) (g := gb498) ?hlo_ ?hx_ Try.underlying24 ?hd_ ?hi_ s24 s25 s26 s27 s28 s29 s30 s31 s32 s33 s34; (case hlo_ => rfl); (case hx_ => rfl); (case hd_ => rfl); (case hi_ => kernel_rfl)) | (refine load_cells_24 (ty := 44) (x := .tmp 5) (g := gb499) ?hlo_ ?hx_ Try.underlying44 ?hd_ ?hi_ s0 s1 s2 s3 s4 s5 s6 s7 s8 s9 s10 s11 s12 s13 s14 s15 s16 s17 s18 s19 s20 s21 s22 s23; (case hlo_ => rfl); (case hx_ => rfl); (case hd_ => rfl); (case hi_ => kernel_rfl)) | (go_simp; with_reducible rfl))
       rotate_left
       ·simp only [Act.put, List.setIfInBounds_toArray, List.set_cons_zero, List.set_cons_succ, i64_w, i32_w]
        rfl
       refine take_ (i := 12) (N := some 31) (v := ?_) (a' := ?_) #[true, true, true, true, true, true, true, true, true, true, false, true, true, true, true, false, false, false, false, false, false, false, false, false, false, false, false, false, false, false, false, false, false] rfl rfl (take_ofW HT_.out HW_.out (by kernel_rfl)) (fun _ _ _ h => h) (Or.inl ⟨by rfl, ?_⟩) hHeld ?_ ?_
       rotate_left
       ·rintro w' ⟨s0, s1, s2, s3, s4, s5, s6, s7, s8, s9, s10, s11, s12, s13, s14, s15, s16, s17, s18, s19, s20, s21, s22, s23, s24, s25, s26, s27, s28, s29, s30, s31, s32, s33, s34⟩
        (first | (refine load_cells_11 (ty := 24) (x := .tmp 4) (g := gb498) ?hlo_ ?hx_ Try.underlying24 ?hd_ ?hi_ s24 s25 s26 s27 s28 s29 s30 s31 s32 s33 s34; (case hlo_ => rfl); (case hx_ => rfl); (case hd_ => rfl); (case hi_ => kernel_rfl)) | (refine load_cells_24 (ty := 44) (x := .tmp 5) (g := gb499) ?hlo_ ?hx_ Try.underlying44 ?hd_ ?hi_ s0 s1 s2 s3 s4 s5 s6 s7 s8 s9 s10 s11 s12 s13 s14 s15 s16 s17 s18 s19 s20 s21 s22 s23; (case hlo_ => rfl); (case hx_ => rfl); (case hd_ => rfl); (case hi_ => kernel_rfl)) | (go_simp; with_reducible rfl))
       rotate_left
       ·simp only [Act.put, List.setIfInBounds_toArray, List.set_cons_zero, List.set_cons_succ, i64_w, i32_w]
        rfl
       refine one_ (i := 10) (N := some 29) #[true, true, true, true, true, true, true, true, true, true, true, true, true, true, true, false, false, false, false, false, false, false, false, false, false, false, false, false, false, false, false, false, false] rfl rfl (one_of HT_.out (by kernel_rfl)) (by decide) (fun K hK => ?_)
       refine goes_ Try.func49 (by kernel_rfl) rfl #[.string a1_12, .int .i64 a2, .slice A3 l3.length c3] (by rfl) rfl rfl (by (try simp only [List.map_toArray, List.map_cons, List.map_nil]); first | done | rfl | (simp only [List.length_drop, List.length_take]; rfl)) ?_
       with_reducible refine (gate_Mark.calls kj4 a1_12 a2 _ _ l3 t503 _ ?side1 ?side2 A19.out).mono ?_
       (case side1 => exact (Kd.C_below HR3.out HB.out))
       (case side2 => exact HC3.out)
       rintro e w29 ⟨rfl, hb⟩
       refine ⟨_, rfl, ?_⟩
       have n0_ := Aside0.mk (blk_below BK498.out hb)
       have n1_ := Aside0.mk (blk_below BK499.out hb)
       have n2_ := Aside0.mk (below_step HB.out hb)
       clear BK498
       clear BK499
       clear HB
       have BK498 := n0_
       have BK499 := n1_
       have HB := n2_
       clear n0_ n1_ n2_
       (try clear hb)
       (try clear hb2)
       (try clear hk)
       (try clear hi)
       refine hK.out _ _ (and_24 BK499.out (cells_11 BK498.out)) (fun hHeld => ?_)
       clear hK K
       refine norm_ (a' := ?_) ?_ ?_
       rotate_left
       ·show Act.put _ (some 29) _ = _
        simp only [Act.put, List.setIfInBounds_toArray, List.set_cons_zero, List.set_cons_succ, i64_w, i32_w]
        rfl
       refine one_ (i := 15) (N := some 34) #[true, true, true, true, true, true, true, true, true, true, true, true, true, true, true, true, false, false, false, false, false, false, false, false, false, false, false, false, false, false, false, false, false] rfl rfl (one_of HT_.out (by kernel_rfl)) (by decide) (fun K hK => ?_)
       refine goes_ Try.func50 (by kernel_rfl) rfl #[.string a1_12, .int .i64 a2, .slice A3 l3.length c3] (by rfl) rfl rfl (by (try simp only [List.map_toArray, List.map_cons, List.map_nil]); first | done | rfl | (simp only [List.length_drop, List.length_take]; rfl)) ?_
       with_reducible refine (bellwetherref23_Mark.calls kj4 a1_12 a2 _ _ l3 t504 _ ?side1 ?side2 A20.out).mono ?_
       (case side1 => exact (Kd.C_below HR3.out HB.out))
       (case side2 => exact HC3.out)
       rintro e w30 ⟨rfl, hb⟩
       refine ⟨_, rfl, ?_⟩
       have n0_ := Aside0.mk (blk_below BK498.out hb)
       have n1_ := Aside0.mk (blk_below BK499.out hb)
       have n2_ := Aside0.mk (below_step HB.out hb)
       clear BK498
       clear BK499
       clear HB
       have BK498 := n0_
       have BK499 := n1_
       have HB := n2_
       clear n0_ n1_ n2_
       (try clear hb)
       (try clear hb2)
       (try clear hk)
       (try clear hi)
       refine hK.out _ _ (and_24 BK499.out (cells_11 BK498.out)) (fun hHeld => ?_)
       clear hK K
       refine norm_ (a' := ?_) ?_ ?_
       rotate_left
       ·show Act.put _ (some 34) _ = _
        simp only [Act.put, List.setIfInBounds_toArray, List.set_cons_zero, List.set_cons_succ, i64_w, i32_w]
        rfl
       refine pure_ (i := 16) (N := some 35) (v := ?_) (a' := ?_) #[true, true, true, true, true, true, true, true, true, true, true, true, true, true, true, true, true, false, false, false, false, false, false, false, false, false, false, false, false, false, false, false, false] rfl rfl (any_of HT_.out (by kernel_rfl)) (fun _ _ _ h => h) (Or.inl ⟨by rfl, ?_⟩) ?_ ?_
       rotate_left
       ·intro w'
        go_simp
        with_reducible rfl
       rotate_left
       ·simp only [Act.put, List.setIfInBounds_toArray, List.set_cons_zero, List.set_cons_succ, i64_w, i32_w]
        rfl
       refine pure_ (i := 17) (N := some 36) (v := ?_) (a' := ?_) #[true, true, true, true, true, true, true, true, true, true, true, true, true, true, true, true, true, true, false, false, false, false, false, false, false, false, false, false, false, false, false, false, false] rfl rfl (any_of HT_.out (by kernel_rfl)) (fun _ _ _ h => h) (Or.inl ⟨by rfl, ?_⟩) ?_ ?_
       rotate_left
       ·intro w'
        go_simp
        with_reducible rfl
       rotate_left
       ·simp only [Act.put, List.setIfInBounds_toArray, List.set_cons_zero, List.set_cons_succ, i64_w, i32_w]
        rfl
       refine pure_ (i := 18) (N := some 37) (v := ?_) (a' := ?_) #[true, true, true, true, true, true, true, true, true, true, true, true, true, true, true, true, true, true, true, false, false, false, false, false, false, false, false, false, false, false, false, false, false] rfl rfl (any_of HT_.out (by kernel_rfl)) (fun _ _ _ h => h) (Or.inl ⟨by rfl, ?_⟩) ?_ ?_
       rotate_left
       ·intro w'
        go_simp
        with_reducible rfl
       rotate_left
       ·simp only [Act.put, List.setIfInBounds_toArray, List.set_cons_zero, List.set_cons_succ, i64_w, i32_w]
        rfl
       refine pure_ (i := 21) (N := some 40) (v := ?_) (a' := ?_) #[true, true, true, true, true, true, true, true, true, true, true, true, true, true, true, true, true, true, true, false, false, true, false, false, false, false, false, false, false, false, false, false, false] rfl rfl (any_of HT_.out (by kernel_rfl)) (fun _ _ _ h => h) (Or.inl ⟨by rfl, ?_⟩) ?_ ?_
       rotate_left
       ·intro w'
        go_simp
        with_reducible rfl
       rotate_left
       ·simp only [Act.put, List.setIfInBounds_toArray, List.set_cons_zero, List.set_cons_succ, i64_w, i32_w]
        rfl
       refine pure_ (i := 25) (N := some 44) (v := ?_) (a' := ?_) #[true, true, true, true, true, true, true, true, true, true, true, true, true, true, true, true, true, true, true, false, false, true, false, false, false, true, false, false, false, false, false, false, false] rfl rfl (any_of HT_.out (by kernel_rfl)) (fun _ _ _ h => h) (Or.inl ⟨by rfl, ?_⟩) ?_ ?_
       rotate_left
       ·intro w'
        go_simp
        with_reducible rfl
       rotate_left
       ·simp only [Act.put, List.setIfInBounds_toArray, List.set_cons_zero, List.set_cons_succ, i64_w, i32_w]
        rfl
       refine take_ (i := 19) (N := some 38) (v := ?_) (a' := ?_) #[true, true, true, true, true, true, true, true, true, true, true, true, true, true, true, true, true, true, true, true, false, true, false, false, false, true, false, false, false, false, false, false, false] rfl rfl (take_ofW HT_.out HW_.out (by kernel_rfl)) (fun _ _ _ h => h) (Or.inl ⟨by rfl, ?_⟩) hHeld ?_ ?_
       rotate_left
       ·rintro w' ⟨s0, s1, s2, s3, s4, s5, s6, s7, s8, s9, s10, s11, s12, s13, s14, s15, s16, s17, s18, s19, s20, s21, s22, s23, s24, s25, s26, s27, s28, s29, s30, s31, s32, s33, s34⟩
        (first | (refine load_cells_11 (ty := 24) (x := .tmp 4) (g := gb498) ?hlo_ ?hx_ Try.underlying24 ?hd_ ?hi_ s24 s25 s26 s27 s28 s29 s30 s31 s32 s33 s34; (case hlo_ => rfl); (case hx_ => rfl); (case hd_ => rfl); (case hi_ => kernel_rfl)) | (refine load_cells_24 (ty := 44) (x := .tmp 5) (g := gb499) ?hlo_ ?hx_ Try.underlying44 ?hd_ ?hi_ s0 s1 s2 s3 s4 s5 s6 s7 s8 s9 s10 s11 s12 s13 s14 s15 s16 s17 s18 s19 s20 s21 s22 s23; (case hlo_ => rfl); (case hx_ => rfl); (case hd_ => rfl); (case hi_ => kernel_rfl)) | (go_simp; with_reducible rfl))
       rotate_left
       ·simp only [Act.put, List.setIfInBounds_toArray, List.set_cons_zero, List.set_cons_succ, i64_w, i32_w]
        rfl
       refine take_ (i := 20) (N := some 39) (v := ?_) (a' := ?_) #[true, true, true, true, true, true, true, true, true, true, true, true, true, true, true, true, true, true, true, true, true, true, false, false, false, true, false, false, false, false, false, false, false] rfl rfl (take_ofW HT_.out HW_.out (by kernel_rfl)) (fun _ _ _ h => h) (Or.inl ⟨by rfl, ?_⟩) hHeld ?_ ?_
       rotate_left
       ·rintro w' ⟨s0, s1, s2, s3, s4, s5, s6, s7, s8, s9, s10, s11, s12, s13, s14, s15, s16, s17, s18, s19, s20, s21, s22, s23, s24, s25, s26, s27, s28, s29, s30, s31, s32, s33, s34⟩
        (first | (refine load_cells_11 (ty := 24) (x := .tmp 4) (g := gb498) ?hlo_ ?hx_ Try.underlying24 ?hd_ ?hi_ s24 s25 s26 s27 s28 s29 s30 s31 s32 s33 s34; (case hlo_ => rfl); (case hx_ => rfl); (case hd_ => rfl); (case hi_ => kernel_rfl)) | (refine load_cells_24 (ty := 44) (x := .tmp 5) (g := gb499) ?hlo_ ?hx_ Try.underlying44 ?hd_ ?hi_ s0 s1 s2 s3 s4 s5 s6 s7 s8 s9 s10 s11 s12 s13 s14 s15 s16 s17 s18 s19 s20 s21 s22 s23; (case hlo_ => rfl); (case hx_ => rfl); (case hd_ => rfl); (case hi_ => kernel_rfl)) | (go_simp; with_reducible rfl))
       rotate_left
       ·simp only [Act.put, List.setIfInBounds_toArray, List.set_cons_zero, List.set_cons_succ, i64_w, i32_w]
        rfl
       refine take_ (i := 23) (N := some 42) (v := ?_) (a' := ?_) #[true, true, true, true, true, true, true, true, true, true, true, true, true, true, true, true, true, true, true, true, true, true, false, true, false, true, false, false, false, false, false, false, false] rfl rfl (take_ofW HT_.out HW_.out (by kernel_rfl)) (fun _ _ _ h => h) (Or.inl ⟨by rfl, ?_⟩) hHeld ?_ ?_
       rotate_left
       ·rintro w' ⟨s0, s1, s2, s3, s4, s5, s6, s7, s8, s9, s10, s11, s12, s13, s14, s15, s16, s17, s18, s19, s20, s21, s22, s23, s24, s25, s26, s27, s28, s29, s30, s31, s32, s33, s34⟩
        (first | (refine load_cells_11 (ty := 24) (x := .tmp 4) (g := gb498) ?hlo_ ?hx_ Try.underlying24 ?hd_ ?hi_ s24 s25 s26 s27 s28 s29 s30 s31 s32 s33 s34; (case hlo_ => rfl); (case hx_ => rfl); (case hd_ => rfl); (case hi_ => kernel_rfl)) | (refine load_cells_24 (ty := 44) (x := .tmp 5) (g := gb499) ?hlo_ ?hx_ Try.underlying44 ?hd_ ?hi_ s0 s1 s2 s3 s4 s5 s6 s7 s8 s9 s10 s11 s12 s13 s14 s15 s16 s17 s18 s19 s20 s21 s22 s23; (case hlo_ => rfl); (case hx_ => rfl); (case hd_ => rfl); (case hi_ => kernel_rfl)) | (go_simp; with_reducible rfl))
       rotate_left
       ·simp only [Act.put, List.setIfInBounds_toArray, List.set_cons_zero, List.set_cons_succ, i64_w, i32_w]
        rfl
       refine take_ (i := 24) (N := some 43) (v := ?_) (a' := ?_) #[true, true, true, true, true, true, true, true, true, true, true, true, true, true, true, true, true, true, true, true, true, true, false, true, true, true, false, false, false, false, false, false, false] rfl rfl (take_ofW HT_.out HW_.out (by kernel_rfl)) (fun _ _ _ h => h) (Or.inl ⟨by rfl, ?_⟩) hHeld ?_ ?_
       rotate_left
       ·rintro w' ⟨s0, s1, s2, s3, s4, s5, s6, s7, s8, s9, s10, s11, s12, s13, s14, s15, s16, s17, s18, s19, s20, s21, s22, s23, s24, s25, s26, s27, s28, s29, s30, s31, s32, s33, s34⟩
        (first | (refine load_cells_11 (ty := 24) (x := .tmp 4) (g := gb498) ?hlo_ ?hx_ Try.underlying24 ?hd_ ?hi_ s24 s25 s26 s27 s28 s29 s30 s31 s32 s33 s34; (case hlo_ => rfl); (case hx_ => rfl); (case hd_ => rfl); (case hi_ => kernel_rfl)) | (refine load_cells_24 (ty := 44) (x := .tmp 5) (g := gb499) ?hlo_ ?hx_ Try.underlying44 ?hd_ ?hi_ s0 s1 s2 s3 s4 s5 s6 s7 s8 s9 s10 s11 s12 s13 s14 s15 s16 s17 s18 s19 s20 s21 s22 s23; (case hlo_ => rfl); (case hx_ => rfl); (case hd_ => rfl); (case hi_ => kernel_rfl)) | (go_simp; with_reducible rfl))
       rotate_left
       ·simp only [Act.put, List.setIfInBounds_toArray, List.set_cons_zero, List.set_cons_succ, i64_w, i32_w]
        rfl
       refine one_ (i := 22) (N := some 41) #[true, true, true, true, true, true, true, true, true, true, true, true, true, true, true, true, true, true, true, true, true, true, true, true, true, true, false, false, false, false, false, false, false] rfl rfl (one_of HT_.out (by kernel_rfl)) (by decide) (fun K hK => ?_)
       refine goes_ Try.func51 (by kernel_rfl) rfl #[.agg #[.int .i64 a0_0, .int .i64 a0_1, .int .i64 a0_2, .int .i64 a0_3, .int .i64 a0_4, .int .i64 a0_5, .int .i64 a0_6, .int .i64 a0_7, .int .i64 a0_8, .int .i64 a0_9, .slice A0_10 l0_10.length c0_10], .agg #[.int .i64 a1_0, .int .i64 a1_1, .int .i64 a1_2, .string a1_3, .int .i64 a1_4, .string a1_5, .string a1_6, .int .i64 a1_7, .int .i64 a1_8, .string a1_9, .string a1_10, .string a1_11, .string a1_12, .string a1_13, .string a1_14, .slice A1_15 l1_15.length c1_15, .slice A1_16 l1_16.length c1_16, .slice A1_17 l1_17.length c1_17, .int .i64 a1_18, .int .i64 a1_19, .int .i64 a1_20, .int .i64 a1_21, .int .i64 a1_22, .int .i64 a1_23], .int .i64 a2] (by rfl) rfl rfl (by (try simp only [List.map_toArray, List.map_cons, List.map_nil]); first | done | rfl | (simp only [List.length_drop, List.length_take]; rfl)) ?_
       with_reducible refine (gate_Open.calls kj4 a0_0 a0_1 a0_2 a0_3 a0_4 a0_5 a0_6 a0_7 a0_8 a0_9 _ _ l0_10 a1_0 a1_1 a1_2 a1_3 a1_4 a1_5 a1_6 a1_7 a1_8 a1_9 a1_10 a1_11 a1_12 a1_13 a1_14 _ _ l1_15 _ _ l1_16 _ _ l1_17 a1_18 a1_19 a1_20 a1_21 a1_22 a1_23 a2 t505 _ ?side1 ?side2 ?side3 ?side4 ?side5 ?side6 ?side7 ?side8 A22.out).mono ?_
       (case side1 => exact (Kd.C_below HR0_10.out HB.out))
       (case side2 => exact HC0_10.out)
       (case side3 => exact (Kd.C_below HR1_15.out HB.out))
       (case side4 => exact HC1_15.out)
       (case side5 => exact (Kd.C_below HR1_16.out HB.out))
       (case side6 => exact HC1_16.out)
       (case side7 => exact (Kd.C_below HR1_17.out HB.out))
       (case side8 => exact HC1_17.out)
       rintro e w31 ⟨rfl, hb⟩
       refine ⟨_, rfl, ?_⟩
       have n0_ := Aside0.mk (blk_below BK498.out hb)
       have n1_ := Aside0.mk (blk_below BK499.out hb)
       have n2_ := Aside0.mk (below_step HB.out hb)
       clear BK498
       clear BK499
       clear HB
       have BK498 := n0_
       have BK499 := n1_
       have HB := n2_
       clear n0_ n1_ n2_
       (try clear hb)
       (try clear hb2)
       (try clear hk)
       (try clear hi)
       refine hK.out _ _ (and_24 BK499.out (cells_11 BK498.out)) (fun hHeld => ?_)
       clear hK K
       refine norm_ (a' := ?_) ?_ ?_
       rotate_left
       ·show Act.put _ (some 41) _ = _
        simp only [Act.put, List.setIfInBounds_toArray, List.set_cons_zero, List.set_cons_succ, i64_w, i32_w]
        rfl
       refine one_ (i := 26) (N := some 45) #[true, true, true, true, true, true, true, true, true, true, true, true, true, true, true, true, true, true, true, true, true, true, true, true, true, true, true, false, false, false, false, false, false] rfl rfl (one_of HT_.out (by kernel_rfl)) (by decide) (fun K hK => ?_)
       refine goes_ Try.func52 (by kernel_rfl) rfl #[.agg #[.int .i64 a0_0, .int .i64 a0_1, .int .i64 a0_2, .int .i64 a0_3, .int .i64 a0_4, .int .i64 a0_5, .int .i64 a0_6, .int .i64 a0_7, .int .i64 a0_8, .int .i64 a0_9, .slice A0_10 l0_10.length c0_10], .agg #[.int .i64 a1_0, .int .i64 a1_1, .int .i64 a1_2, .string a1_3, .int .i64 a1_4, .string a1_5, .string a1_6, .int .i64 a1_7, .int .i64 a1_8, .string a1_9, .string a1_10, .string a1_11, .string a1_12, .string a1_13, .string a1_14, .slice A1_15 l1_15.length c1_15, .slice A1_16 l1_16.length c1_16, .slice A1_17 l1_17.length c1_17, .int .i64 a1_18, .int .i64 a1_19, .int .i64 a1_20, .int .i64 a1_21, .int .i64 a1_22, .int .i64 a1_23], .int .i64 a2] (by rfl) rfl rfl (by (try simp only [List.map_toArray, List.map_cons, List.map_nil]); first | done | rfl | (simp only [List.length_drop, List.length_take]; rfl)) ?_
       with_reducible refine (bellwetherref23_Open.calls kj4 a0_0 a0_1 a0_2 a0_3 a0_4 a0_5 a0_6 a0_7 a0_8 a0_9 _ _ l0_10 a1_0 a1_1 a1_2 a1_3 a1_4 a1_5 a1_6 a1_7 a1_8 a1_9 a1_10 a1_11 a1_12 a1_13 a1_14 _ _ l1_15 _ _ l1_16 _ _ l1_17 a1_18 a1_19 a1_20 a1_21 a1_22 a1_23 a2 t506 _ ?side1 ?side2 ?side3 ?side4 ?side5 ?side6 ?side7 ?side8 A23.out).mono ?_
       (case side1 => exact (Kd.C_below HR0_10.out HB.out))
       (case side2 => exact HC0_10.out)
       (case side3 => exact (Kd.C_below HR1_15.out HB.out))
       (case side4 => exact HC1_15.out)
       (case side5 => exact (Kd.C_below HR1_16.out HB.out))
       (case side6 => exact HC1_16.out)
       (case side7 => exact (Kd.C_below HR1_17.out HB.out))
       (case side8 => exact HC1_17.out)
       rintro e w32 ⟨rfl, hb⟩
       refine ⟨_, rfl, ?_⟩
       have n0_ := Aside0.mk (blk_below BK498.out hb)
       have n1_ := Aside0.mk (blk_below BK499.out hb)
       have n2_ := Aside0.mk (below_step HB.out hb)
       clear BK498
       clear BK499
       clear HB
       have BK498 := n0_
       have BK499 := n1_
       have HB := n2_
       clear n0_ n1_ n2_
       (try clear hb)
       (try clear hb2)
       (try clear hk)
       (try clear hi)
       refine hK.out _ _ (and_24 BK499.out (cells_11 BK498.out)) (fun hHeld => ?_)
       clear hK K
       refine norm_ (a' := ?_) ?_ ?_
       rotate_left
       ·show Act.put _ (some 45) _ = _
        simp only [Act.put, List.setIfInBounds_toArray, List.set_cons_zero, List.set_cons_succ, i64_w, i32_w]
        rfl
       refine pure_ (i := 27) (N := some 46) (v := ?_) (a' := ?_) #[true, true, true, true, true, true, true, true, true, true, true, true, true, true, true, true, true, true, true, true, true, true, true, true, true, true, true, true, false, false, false, false, false] rfl rfl (any_of HT_.out (by kernel_rfl)) (fun _ _ _ h => h) (Or.inl ⟨by rfl, ?_⟩) ?_ ?_
       rotate_left
       ·intro w'
        go_simp
        with_reducible rfl
       rotate_left
       ·simp only [Act.put, List.setIfInBounds_toArray, List.set_cons_zero, List.set_cons_succ, i64_w, i32_w]
        rfl
       refine pure_ (i := 28) (N := some 47) (v := ?_) (a' := ?_) #[true, true, true, true, true, true, true, true, true, true, true, true, true, true, true, true, true, true, true, true, true, true, true, true, true, true, true, true, true, false, false, false, false] rfl rfl (any_of HT_.out (by kernel_rfl)) (fun _ _ _ h => h) (Or.inl ⟨by rfl, ?_⟩) ?_ ?_
       rotate_left
       ·intro w'
        go_simp
        with_reducible rfl
       rotate_left
       ·simp only [Act.put, List.setIfInBounds_toArray, List.set_cons_zero, List.set_cons_succ, i64_w, i32_w]
        rfl
       refine pure_ (i := 29) (N := some 48) (v := ?_) (a' := ?_) #[true, true, true, true, true, true, true, true, true, true, true, true, true, true, true, true, true, true, true, true, true, true, true, true, true, true, true, true, true, true, false, false, false] rfl rfl (any_of HT_.out (by kernel_rfl)) (fun _ _ _ h => h) (Or.inl ⟨by rfl, ?_⟩) ?_ ?_
       rotate_left
       ·intro w'
        go_simp
        with_reducible rfl
       rotate_left
       ·simp only [Act.put, List.setIfInBounds_toArray, List.set_cons_zero, List.set_cons_succ, i64_w, i32_w]
        rfl
       refine one_ (i := 30) (N := some 49) #[true, true, true, true, true, true, true, true, true, true, true, true, true, true, true, true, true, true, true, true, true, true, true, true, true, true, true, true, true, true, true, false, false] rfl rfl (one_of HT_.out (by kernel_rfl)) (by decide) (fun K hK => ?_)
       refine goes_ Try.func46 (by kernel_rfl) rfl #[] (by rfl) rfl rfl (by (try simp only [List.map_toArray, List.map_cons, List.map_nil]); first | done | rfl | (simp only [List.length_drop, List.length_take]; rfl)) ?_
       with_reducible refine (bellwetherlaw23_known.calls kj4  t507 _ A25.out).mono ?_
       rintro e w33 ⟨rfl, hb⟩
       refine ⟨_, rfl, ?_⟩
       have n0_ := Aside0.mk (blk_below BK498.out hb)
       have n1_ := Aside0.mk (blk_below BK499.out hb)
       have n2_ := Aside0.mk (below_step HB.out hb)
       clear BK498
       clear BK499
       clear HB
       have BK498 := n0_
       have BK499 := n1_
       have HB := n2_
       clear n0_ n1_ n2_
       (try clear hb)
       (try clear hb2)
       (try clear hk)
       (try clear hi)
       refine hK.out _ _ (and_24 BK499.out (cells_11 BK498.out)) (fun hHeld => ?_)
       clear hK K
       refine norm_ (a' := ?_) ?_ ?_
       rotate_left
       ·show Act.put _ (some 49) _ = _
        simp only [Act.put, List.setIfInBounds_toArray, List.set_cons_zero, List.set_cons_succ, i64_w, i32_w]
        rfl
       refine pure_ (i := 31) (N := some 50) (v := ?_) (a' := ?_) #[true, true, true, true, true, true, true, true, true, true, true, true, true, true, true, true, true, true, true, true, true, true, true, true, true, true, true, true, true, true, true, true, false] rfl rfl (any_of HT_.out (by kernel_rfl)) (fun _ _ _ h => h) (Or.inl ⟨by rfl, ?_⟩) ?_ ?_
       rotate_left
       ·intro w'
        go_simp
        with_reducible rfl
       rotate_left
       ·simp only [Act.put, List.setIfInBounds_toArray, List.set_cons_zero, List.set_cons_succ, i64_w, i32_w]
        rfl
       refine pure_ (i := 32) (N := some 8) (v := ?_) (a' := ?_) #[true, true, true, true, true, true, true, true, true, true, true, true, true, true, true, true, true, true, true, true, true, true, true, true, true, true, true, true, true, true, true, true, true] rfl rfl (any_of HT_.out (by kernel_rfl)) (fun _ _ _ h => h) (Or.inl ⟨by rfl, ?_⟩) ?_ ?_
       rotate_left
       ·intro w'
        go_simp
        with_reducible rfl
       rotate_left
       ·simp only [Act.put, List.setIfInBounds_toArray, List.set_cons_zero, List.set_cons_succ, i64_w, i32_w]
        rfl
       refine done_ (done_of HT_.out (by kernel_rfl)) ?_
       try go_wp2
       go_ret
       exact ⟨by first | rfl | (simp [errW_none, errW_some] <;> rfl) | (simp [*, errW_none, errW_some] <;> rfl), by repeat (first | (with_reducible first | exact HB.out | apply below_alloc | apply pw_below_drewN | apply below_drew1 | refine below_set ?_ GE498.out | refine below_set ?_ GE499.out) | exact HB.out)⟩
      ·rw [if_neg c24] at H
       have c24b0 : (t505 == t506) = false := beq_eq_false_iff_ne.mpr c24
       have c24b1 : (t505 != t506) = true := bne_iff_ne.mpr c24
       exact absurd H (by simp)
     ·rw [if_neg c21] at H
      have c21b0 : (t503.toList == t504.toList) = false := beq_eq_false_iff_ne.mpr c21
      have c21b1 : (t503.toList != t504.toList) = true := bne_iff_ne.mpr c21
      exact absurd H (by simp)
    ·rw [if_neg c18] at H
     have c18b0 : (t501 == t502) = false := by simpa using c18
     (try (have c18b1 : decide (t501 = t502) = false := by simpa using c18))
     (try (have c18b2 : (t501 == t502) = false := by simpa using c18))
     (try (have c18b3 : ¬ (t501 = t502) := by simpa using c18))
     clear c18
     exact absurd H (by simp)
end Go.Proofs.Ytdcknaoamjlaiaa.Gn
