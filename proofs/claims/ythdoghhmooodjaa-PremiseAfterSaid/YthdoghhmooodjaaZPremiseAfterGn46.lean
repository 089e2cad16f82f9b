import Derived.Test.YthdoghhmooodjaaZPremiseAfterGn0
import Derived.Test.YthdoghhmooodjaaZPremiseAfterGn1
import Derived.Test.YthdoghhmooodjaaZPremiseAfterGn3
import Derived.Test.YthdoghhmooodjaaZPremiseAfterGn4
namespace Go.Proofs.Ythdoghhmooodjaa.Gn
open Go.RowKit Go.Proofs.YthdoghhmooodjaaW.PrintWords Go.Proofs.YthdoghhmooodjaaW.PrintLast Go.Proofs.YthdoghhmooodjaaW.PrintMore
attribute [local go_sem] max2_int min2_int max_two min_two max_three min_three max_four min_four   -- for this text's walks alone
set_option linter.unusedVariables false
set_option linter.unusedSimpArgs false
def conf_Rounds.f (k : Nat) (B2 B0 B3 B4 B5 B6 B7 B8 B9 Ba : Int) (B1 : List Int) : Option (Int) := (conf_Plain.f k B2 B0 B3 B4 B5 B6 B7 B8 B9 Ba B1).bind fun Bb => (if Bb = 0 then (some (wrap64 (3 * (wrap64 (B0 + 1))))) else (some 0))
theorem conf_Rounds.mono : ∀ a0 a1 a2 a3 a4 a5 a6 a7 a8 a9 B0 k, LeO (conf_Rounds.f k a0 a1 a2 a3 a4 a5 a6 a7 a8 a9 B0) (conf_Rounds.f (k + 1) a0 a1 a2 a3 a4 a5 a6 a7 a8 a9 B0) := by
 intro a0 a1 a2 a3 a4 a5 a6 a7 a8 a9 B0 k
 unfold conf_Rounds.f
 repeat' first
   | (with_reducible exact conf_Plain.mono _ _ _ _ _ _ _ _ _ _ _ _)
   | (with_reducible exact LeO.refl _)
   | (with_reducible exact LeO.none _)
   | (with_reducible refine LeO.ite ?_ ?_)
   | (with_reducible refine LeO.bind ?_ (fun _ => ?_))
   | exact conf_Plain.mono _ _ _ _ _ _ _ _ _ _ _ _
   | exact LeO.none _
   | refine LeO.ite ?_ ?_
   | refine LeO.bind ?_ (fun _ => ?_)
set_option maxHeartbeats 8000000 in
set_option maxRecDepth 100000 in
theorem conf_Rounds.calls (k : Nat) (B4 B5 B6 B7 B8 B9 Ba Bb Bc Bd : Int) (B2 : Option Addr) (B3 : Nat) (B1 : List Int) (r : Int) (w : World) (Be : Kd.C (Kd.int .i64) w B2 B1.length B1) (Bf : B1.length ≤ B3) (h : conf_Rounds.f k B4 B5 B6 B7 B8 B9 Ba Bb Bc Bd B1 = some r) :
  Calls Try.prog 106 #[.agg #[.int .i64 B4, .int .i64 B5, .int .i64 B6, .int .i64 B7, .int .i64 B8, .int .i64 B9, .int .i64 Ba, .int .i64 Bb, .int .i64 Bc, .int .i64 Bd, .slice B2 B1.length B3]] w fun e w' => e = .returned (.int .i64 r) ∧ Below w.heap.size w w' := by
 have Bo := Try.underlying24
 have Bg := am_ Be
 have Bh := am_ Bf
 clear Be Bf
 have HB := am_ (Below.refl w.heap.size w)
 have H := h
 unfold conf_Rounds.f at H
 clear h
 obtain ⟨Bi, A2, H⟩ := bes_ H
 try dsimp only at H
 by_cases c3 : Bi = 0
 ·rw [if_pos c3] at H
  have Bm : (Bi == 0) = true := beq_iff_eq.mpr c3
  have Bn : (Bi != 0) = false := bne_eq_false_iff_eq.mpr c3
  clear c3
  obtain rfl := Option.some.inj H
  go_enter Try.func106, Try.ntmps106
  go_wp2_with (first | ((with_reducible refine gate_dst (N := 1) rfl ?_); refine bxe_ 1 24 #[.int .i64 B4, .int .i64 B5, .int .i64 B6, .int .i64 B7, .int .i64 B8, .int .i64 B9, .int .i64 Ba, .int .i64 Bb, .int .i64 Bc, .int .i64 Bd, .slice B2 B1.length B3] ?_; intro Bl hg w4 hbox hb; have B0 := am_ (hbox); have Bj := gwk_ HB hg; have Bk := Bj; replace HB := bst_ HB hb; clear hb hbox hg; have Bp := cells_11 B0.out; have Bq := frozen_11 B0.out) | ((with_reducible refine gate_callee (f := 54) rfl ?_); refine gom_ (some 4) Try.func54 (conf_Plain.calls k B4 B5 B6 B7 B8 B9 Ba Bb Bc Bd _ _ B1 _ _ (Kd.C_below Bg.out HB.out) Bh.out A2.out) ?_; rintro e w6 ⟨rfl, hb⟩; refine ⟨_, rfl, ?_⟩; replace B0 := bkb_ B0 hb; replace HB := bst_ HB hb; (try clear hb); have Br := cells_11 B0.out; have Bs := frozen_11 B0.out))
  go_ret
  exact ⟨by first | rfl | (simp [*] <;> rfl), by repeat (first | (with_reducible first | exact HB.out | apply ba_ | apply bn_ | apply bd_ | refine bs_ ?_ Bk.out) | exact HB.out)⟩
 ·rw [if_neg c3] at H
  have Bm : (Bi == 0) = false := beq_eq_false_iff_ne.mpr c3
  have Bn : (Bi != 0) = true := bne_iff_ne.mpr c3
  obtain rfl := Option.some.inj H
  go_enter Try.func106, Try.ntmps106
  go_wp2_with (first | ((with_reducible refine gate_dst (N := 1) rfl ?_); refine bxe_ 1 24 #[.int .i64 B4, .int .i64 B5, .int .i64 B6, .int .i64 B7, .int .i64 B8, .int .i64 B9, .int .i64 Ba, .int .i64 Bb, .int .i64 Bc, .int .i64 Bd, .slice B2 B1.length B3] ?_; intro Bl hg w8 hbox hb; have B0 := am_ (hbox); have Bj := gwk_ HB hg; have Bk := Bj; replace HB := bst_ HB hb; clear hb hbox hg; have Bt := cells_11 B0.out; have Bu := frozen_11 B0.out) | ((with_reducible refine gate_callee (f := 54) rfl ?_); refine gom_ (some 4) Try.func54 (conf_Plain.calls k B4 B5 B6 B7 B8 B9 Ba Bb Bc Bd _ _ B1 _ _ (Kd.C_below Bg.out HB.out) Bh.out A2.out) ?_; rintro e w10 ⟨rfl, hb⟩; refine ⟨_, rfl, ?_⟩; replace B0 := bkb_ B0 hb; replace HB := bst_ HB hb; (try clear hb)))
  go_ret
  exact ⟨by first | rfl | (simp [*] <;> rfl), by repeat (first | (with_reducible first | exact HB.out | apply ba_ | apply bn_ | apply bd_ | refine bs_ ?_ Bk.out) | exact HB.out)⟩
def conf_Length.f (k : Nat) (B2 B3 B0 B4 B5 B6 B7 B8 B9 Ba : Int) (B1 : List Int) : Option (Int) := (conf_Rounds.f k B2 B3 B0 B4 B5 B6 B7 B8 B9 Ba B1).bind fun Bb => (some (wrap64 (Bb * (mx B0 0))))
theorem conf_Length.mono : ∀ a0 a1 a2 a3 a4 a5 a6 a7 a8 a9 B0 k, LeO (conf_Length.f k a0 a1 a2 a3 a4 a5 a6 a7 a8 a9 B0) (conf_Length.f (k + 1) a0 a1 a2 a3 a4 a5 a6 a7 a8 a9 B0) := by
 intro a0 a1 a2 a3 a4 a5 a6 a7 a8 a9 B0 k
 unfold conf_Length.f
 repeat' first
   | (with_reducible exact conf_Rounds.mono _ _ _ _ _ _ _ _ _ _ _ _)
   | (with_reducible exact LeO.refl _)
   | (with_reducible exact LeO.none _)
   | (with_reducible refine LeO.ite ?_ ?_)
   | (with_reducible refine LeO.bind ?_ (fun _ => ?_))
   | exact conf_Rounds.mono _ _ _ _ _ _ _ _ _ _ _ _
   | exact LeO.none _
   | refine LeO.ite ?_ ?_
   | refine LeO.bind ?_ (fun _ => ?_)
set_option maxHeartbeats 8000000 in
set_option maxRecDepth 100000 in
theorem conf_Length.calls (k : Nat) (B6 B7 B3 B8 B9 Ba Bb Bc Bd Be : Int) (B4 : Option Addr) (B5 : Nat) (B2 : List Int) (r : Int) (w : World) (Bf : Kd.C (Kd.int .i64) w B4 B2.length B2) (Bg : B2.length ≤ B5) (h : conf_Length.f k B6 B7 B3 B8 B9 Ba Bb Bc Bd Be B2 = some r) :
  Calls Try.prog 92 #[.agg #[.int .i64 B6, .int .i64 B7, .int .i64 B3, .int .i64 B8, .int .i64 B9, .int .i64 Ba, .int .i64 Bb, .int .i64 Bc, .int .i64 Bd, .int .i64 Be, .slice B4 B2.length B5]] w fun e w' => e = .returned (.int .i64 r) ∧ Below w.heap.size w w' := by
 have Bp := Try.underlying24
 have Bh := am_ Bf
 have Bi := am_ Bg
 clear Bf Bg
 have HB := am_ (Below.refl w.heap.size w)
 have H := h
 unfold conf_Length.f at H
 clear h
 obtain ⟨Bl, A2, H⟩ := bes_ H
 try dsimp only at H
 obtain ⟨ji3, hji3⟩ : ∃ j_ : Int, (mx B3 0) = j_ := ⟨_, rfl⟩
 replace H : (some (wrap64 (Bl * (ji3)))) = some r := by first | (rw [hji3] at H; exact H) | (simp only [hji3] at H ⊢; exact H)
 (try rw [hji3] at A2)
 (try (have Bm : 0 ≤ ji3 := by (rw [← hji3]; unfold mx; (repeat' split) <;> omega)))
 (try (have Bn : 0 ≤ ji3 := by omega))
 have Bo : (if B3 < 0 then 0 else B3) = ji3 := hji3
 obtain rfl := Option.some.inj H
 go_enter Try.func92, Try.ntmps92
 try go_wp2_with (first | ((with_reducible refine gate_dst (N := 1) rfl ?_); refine bxe_ 1 24 #[.int .i64 B6, .int .i64 B7, .int .i64 B3, .int .i64 B8, .int .i64 B9, .int .i64 Ba, .int .i64 Bb, .int .i64 Bc, .int .i64 Bd, .int .i64 Be, .slice B4 B2.length B5] ?_; intro B1 hg w4 hbox hb; have B0 := am_ (hbox); have Bj := gwk_ HB hg; have Bk := Bj; replace HB := bst_ HB hb; clear hb hbox hg))
 replace B0 := am_ (blk_drew B0.out)
 replace HB := am_ (below_drew1 HB.out)
 refine start_ (n := 7) (S := fun w' => ce_ w' B1 0 (.int .i64 B6) ∧ ce_ w' B1 1 (.int .i64 B7) ∧ ce_ w' B1 2 (.int .i64 B3) ∧ ce_ w' B1 3 (.int .i64 B8) ∧ ce_ w' B1 4 (.int .i64 B9) ∧ ce_ w' B1 5 (.int .i64 Ba) ∧ ce_ w' B1 6 (.int .i64 Bb) ∧ ce_ w' B1 7 (.int .i64 Bc) ∧ ce_ w' B1 8 (.int .i64 Bd) ∧ ce_ w' B1 9 (.int .i64 Be) ∧ ce_ w' B1 10 (.slice B4 B2.length B5)) (ds := []) #[false, false, false, false, false, false, false] (by kernel_rfl) rfl rfl ⟨(blk_cell B0.out 0).trans rfl, (blk_cell B0.out 1).trans rfl, (blk_cell B0.out 2).trans rfl, (blk_cell B0.out 3).trans rfl, (blk_cell B0.out 4).trans rfl, (blk_cell B0.out 5).trans rfl, (blk_cell B0.out 6).trans rfl, (blk_cell B0.out 7).trans rfl, (blk_cell B0.out 8).trans rfl, (blk_cell B0.out 9).trans rfl, (blk_cell B0.out 10).trans rfl⟩ (fun hHeld => ?_)
 generalize w4.drew = w5 at B0 HB hHeld ⊢
 refine pur_ 2 (some 5) rfl rfl (by kernel_rfl) ?_
 refine tak_ 0 (some 3) rfl rfl (by kernel_rfl) hHeld ?_ (by rintro w' ⟨s0, s1, s2, s3, s4, s5, s6, s7, s8, s9, s10⟩; go_simp; with_reducible rfl)
 refine tak_ 3 (some 6) rfl rfl (by kernel_rfl) hHeld ?_ (by rintro w' ⟨s0, s1, s2, s3, s4, s5, s6, s7, s8, s9, s10⟩; go_simp; with_reducible rfl)
 refine pur_ 4 (some 7) rfl rfl (by kernel_rfl) ?_
 refine oon_ 1 (some 4) rfl rfl (by kernel_rfl) (fun K hK => ?_)
 refine gos_ Try.func106 (conf_Rounds.calls k B6 B7 B3 B8 B9 Ba Bb Bc Bd Be _ _ B2 _ _ (Kd.C_below Bh.out HB.out) Bi.out A2.out) ?_
 rintro e w6 ⟨rfl, hb⟩
 refine ⟨_, rfl, ?_⟩
 replace B0 := bkb_ B0 hb
 replace HB := bst_ HB hb
 (try clear hb)
 (try clear hb2)
 (try clear hk)
 (try clear hi)
 refine hK.out _ _ (cells_11 B0.out) (fun hHeld => ?_)
 clear hK K
 refine nor_ 4 ?_
 refine pur_ 5 (some 8) rfl rfl (by kernel_rfl) ?_
 refine pur_ 6 (some 2) rfl rfl (by kernel_rfl) ?_
 refine done_ (by kernel_rfl) ?_
 try go_wp2
 go_ret
 exact ⟨by first | rfl | (simp [errW_none, errW_some] <;> rfl) | (simp only [← hji3]; first | rfl | (simp [errW_none, errW_some] <;> rfl)) | (simp [*, errW_none, errW_some] <;> rfl), by repeat (first | (with_reducible first | exact HB.out | apply ba_ | apply bn_ | apply bd_ | refine bs_ ?_ Bk.out) | exact HB.out)⟩
end Go.Proofs.Ythdoghhmooodjaa.Gn
namespace Go.Proofs.Ythdoghhmooodjaa.Gn
open Go.RowKit Go.Proofs.YthdoghhmooodjaaW.PrintWords Go.Proofs.YthdoghhmooodjaaW.PrintLast Go.Proofs.YthdoghhmooodjaaW.PrintMore
attribute [local go_sem] max2_int min2_int max_two min_two max_three min_three max_four min_four   -- for this text's walks alone
set_option linter.unusedVariables false
set_option linter.unusedSimpArgs false
def bound_Settle.f (k : Nat) (B2 B3 B4 B1 B5 B6 B7 B8 B9 Ba : Int) (B0 : List Int) : Option (Int) := (bound_of.f k B2 B3 B4 B1 B5 B6 B7 B8 B9 Ba B0).bind fun Bb => (if Bb = true then ((conf_Length.f k B2 B3 B4 B1 B5 B6 B7 B8 B9 Ba B0).bind fun Bc => (some (wrap64 ((wrap64 (1 + (wrap64 (4 * Bc)))) + (wrap64 (2 * B1)))))) else (some 0))
theorem bound_Settle.mono : ∀ a0 a1 a2 a3 a4 a5 a6 a7 a8 a9 B0 k, LeO (bound_Settle.f k a0 a1 a2 a3 a4 a5 a6 a7 a8 a9 B0) (bound_Settle.f (k + 1) a0 a1 a2 a3 a4 a5 a6 a7 a8 a9 B0) := by
 intro a0 a1 a2 a3 a4 a5 a6 a7 a8 a9 B0 k
 unfold bound_Settle.f
 repeat' first
   | (with_reducible exact bound_of.mono _ _ _ _ _ _ _ _ _ _ _ _)
   | (with_reducible exact conf_Length.mono _ _ _ _ _ _ _ _ _ _ _ _)
   | (with_reducible exact LeO.refl _)
   | (with_reducible exact LeO.none _)
   | (with_reducible refine LeO.ite ?_ ?_)
   | (with_reducible refine LeO.bind ?_ (fun _ => ?_))
   | exact bound_of.mono _ _ _ _ _ _ _ _ _ _ _ _
   | exact conf_Length.mono _ _ _ _ _ _ _ _ _ _ _ _
   | exact LeO.none _
   | refine LeO.ite ?_ ?_
   | refine LeO.bind ?_ (fun _ => ?_)
def bound_Settle.T4 : Bool × List (List Nat × List Nat) := (true, [([], []), ([0], [0]), ([1], [1]), ([2], [2]), ([], []), ([4], [4]), ([5], [5]), ([3, 6], [3, 6]), ([7, 1, 0, 1, 2, 3, 4, 5, 6, 7], [7])])
def bound_Settle.B4 : List Nat := [0, 1, 3, 7, 0, 16, 48, 127, 255]
theorem bound_Settle.tab4 : rtab .any (opsOf Try.f58 4) = bound_Settle.T4 := by kernel_rfl
theorem bound_Settle.bits4 : waitsOk bound_Settle.T4.2 bound_Settle.B4 = true := by kernel_rfl
set_option maxHeartbeats 8000000 in
set_option maxRecDepth 100000 in
theorem bound_Settle.calls (k : Nat) (B7 B8 B9 Ba Bb Bc Bd Be Bf Bg : Int) (B5 : Option Addr) (B6 : Nat) (B1 : List Int) (r : Int) (w : World) (Bn : Kd.C (Kd.int .i64) w B5 B1.length B1) (Bo : B1.length ≤ B6) (h : bound_Settle.f k B7 B8 B9 Ba Bb Bc Bd Be Bf Bg B1 = some r) :
  Calls Try.prog 58 #[.agg #[.int .i64 B7, .int .i64 B8, .int .i64 B9, .int .i64 Ba, .int .i64 Bb, .int .i64 Bc, .int .i64 Bd, .int .i64 Be, .int .i64 Bf, .int .i64 Bg, .slice B5 B1.length B6]] w fun e w' => e = .returned (.int .i64 r) ∧ Below w.heap.size w w' := by
 have Bx := Try.underlying24
 have By := Try.underlying68
 have Bk := am_ Bn
 have Bl := am_ Bo
 clear Bn Bo
 have HB := am_ (Below.refl w.heap.size w)
 have H := h
 unfold bound_Settle.f at H
 clear h
 obtain ⟨Bu, A2, H⟩ := bes_ H
 try dsimp only at H
 by_cases c3 : Bu = true
 ·subst c3
  rw [if_pos rfl] at H
  obtain ⟨Bz, A4, H⟩ := bes_ H
  try dsimp only at H
  obtain rfl := Option.some.inj H
  go_enter Try.func58, Try.ntmps58
  try go_wp2_with (first | ((with_reducible refine gate_dst (N := 1) rfl ?_); refine bxe_ 1 24 #[.int .i64 B7, .int .i64 B8, .int .i64 B9, .int .i64 Ba, .int .i64 Bb, .int .i64 Bc, .int .i64 Bd, .int .i64 Be, .int .i64 Bf, .int .i64 Bg, .slice B5 B1.length B6] ?_; intro B2 hg w5 hbox hb; have B0 := am_ (hbox); have Bp := gwk_ HB hg; have Bi := Bp; replace HB := bst_ HB hb; clear hb hbox hg; have D0 := cells_11 B0.out; have D1 := frozen_11 B0.out) | ((with_reducible refine gate_callee (f := 62) rfl ?_); refine gom_ (some 7) Try.func62 (bound_of.calls k B7 B8 B9 Ba Bb Bc Bd Be Bf Bg _ _ B1 _ _ (Kd.C_below Bk.out HB.out) Bl.out A2.out) ?_; rintro e w7 ⟨rfl, hb⟩; refine ⟨_, rfl, ?_⟩; replace B0 := bkb_ B0 hb; replace HB := bst_ HB hb; (try clear hb)) | ((with_reducible refine gate_dst (N := 3) rfl ?_); refine bxe_ 3 68 #[.int .i64 0, .int .i64 0, .int .i64 0, .int .i64 0, .int .i64 0, .int .i64 0, .int .i64 0, .int .i64 0, .int .i64 0, .int .i64 0, .slice none 0 0] ?_; intro Bj hg w8 hbox hb; have B3 := am_ (hbox); have Bq := gwk_ HB hg; have Bh := Bq; replace HB := bst_ HB hb; have B4 := nbk_ B0 hg; have Bm := nbs_ B4; replace B0 := bkb_ B0 hb; clear hb hbox hg) | ((with_reducible refine gate_store (t := 68) (p := 3) rfl ?_); refine row_store_event (t := 68) (p := 3) (v := ?vo_w9) ?hgd ?ho ?hn Bj #[.int .i64 B7, .int .i64 B8, .int .i64 B9, .int .i64 Ba, .int .i64 Bb, .int .i64 Bc, .int .i64 Bd, .int .i64 Be, .int .i64 Bf, .int .i64 Bg, .slice B5 B1.length B6] ?hx ?hy 68 #[.int .i64 0, .int .i64 0, .int .i64 0, .int .i64 0, .int .i64 0, .int .i64 0, .int .i64 0, .int .i64 0, .int .i64 0, .int .i64 0, .slice none 0 0] ?hg ?hi ?hold ?h1 ?_; (case hgd => rfl); (case ho => rfl); (case hn => rfl); (case hx => rfl); (case hy => rfl); (case hg => exact (by (with_reducible repeat (first | apply kn_ | apply kd_ | apply ka_)); exact B3.out)); (case hi => kernel_rfl); (case hold => rfl); (case h1 => (first | kernel_rfl | simp [Value.oneCell'])); intro w9 hw; have Br : Aside0 (w9.heap[B2]? = some (.cells #[.int .i64 B7, .int .i64 B8, .int .i64 B9, .int .i64 Ba, .int .i64 Bb, .int .i64 Bc, .int .i64 Bd, .int .i64 Be, .int .i64 Bf, .int .i64 Bg, .slice B5 B1.length B6] 24 (0, 0))) := ⟨(by rw [hw]; exact (by (with_reducible repeat (first | apply kn_ | apply kd_ | apply ka_)); refine blk_farc ?_ B4.out; (with_reducible repeat (first | apply kn_ | apply kd_ | apply ka_)); exact B0.out))⟩; have Bs : Aside0 (w9.heap[Bj]? = some (.cells #[.int .i64 B7, .int .i64 B8, .int .i64 B9, .int .i64 Ba, .int .i64 Bb, .int .i64 Bc, .int .i64 Bd, .int .i64 Be, .int .i64 Bf, .int .i64 Bg, .slice B5 B1.length B6] 68 (0, 0))) := ⟨(by rw [hw]; exact (by (with_reducible repeat (first | apply kn_ | apply kd_ | apply ka_)); refine setRow_heap _ _ #[.int .i64 0, .int .i64 0, .int .i64 0, .int .i64 0, .int .i64 0, .int .i64 0, .int .i64 0, .int .i64 0, .int .i64 0, .int .i64 0, .slice none 0 0] _ 68 (0, 0) ?_; (with_reducible repeat (first | apply kn_ | apply kd_ | apply ka_)); exact B3.out))⟩; have Bt : Aside0 (Below w.heap.size w w9) := ⟨(by rw [hw]; exact (by repeat (first | (with_reducible first | exact HB.out | refine below_setc ?_ Bh.out | apply below_alloc | apply pw_below_drewN | apply below_drew1 | refine bs_ ?_ Bi.out | refine bs_ ?_ Bh.out) | exact HB.out)))⟩; clear hw; clear B0; clear B3; clear HB; have B0 := Br; have B3 := Bs; have HB := Bt; clear Br Bs Bt))
  replace B0 := am_ (blk_drew B0.out)
  replace B3 := am_ (blk_drew B3.out)
  replace HB := am_ (below_drew1 HB.out)
  refine start_ (n := 9) (S := fun w' => ce_ w' B2 0 (.int .i64 B7) ∧ ce_ w' B2 1 (.int .i64 B8) ∧ ce_ w' B2 2 (.int .i64 B9) ∧ ce_ w' B2 3 (.int .i64 Ba) ∧ ce_ w' B2 4 (.int .i64 Bb) ∧ ce_ w' B2 5 (.int .i64 Bc) ∧ ce_ w' B2 6 (.int .i64 Bd) ∧ ce_ w' B2 7 (.int .i64 Be) ∧ ce_ w' B2 8 (.int .i64 Bf) ∧ ce_ w' B2 9 (.int .i64 Bg) ∧ ce_ w' B2 10 (.slice B5 B1.length B6)) (ds := []) #[false, false, false, false, false, false, false, false, false] (by kernel_rfl) rfl rfl ⟨(blk_cell B0.out 0).trans rfl, (blk_cell B0.out 1).trans rfl, (blk_cell B0.out 2).trans rfl, (blk_cell B0.out 3).trans rfl, (blk_cell B0.out 4).trans rfl, (blk_cell B0.out 5).trans rfl, (blk_cell B0.out 6).trans rfl, (blk_cell B0.out 7).trans rfl, (blk_cell B0.out 8).trans rfl, (blk_cell B0.out 9).trans rfl, (blk_cell B0.out 10).trans rfl⟩ (fun hHeld => ?_); refine with_tabW bound_Settle.tab4 bound_Settle.bits4 (fun HT_ HW_ => ?_)
  generalize w9.drew = w10 at B0 B3 HB hHeld ⊢
  refine pur_ 4 (some 16) rfl rfl (any_of HT_.out (by kernel_rfl)) ?_
  refine tak_ 0 (some 12) rfl rfl (take_ofW HT_.out HW_.out (by kernel_rfl)) hHeld ?_ (by rintro w' ⟨s0, s1, s2, s3, s4, s5, s6, s7, s8, s9, s10⟩; go_simp; with_reducible rfl)
  refine tak_ 5 (some 17) rfl rfl (take_ofW HT_.out HW_.out (by kernel_rfl)) hHeld ?_ (by rintro w' ⟨s0, s1, s2, s3, s4, s5, s6, s7, s8, s9, s10⟩; go_simp; with_reducible rfl)
  refine pur_ 6 (some 18) rfl rfl (any_of HT_.out (by kernel_rfl)) ?_
  refine oon_ 1 (some 13) rfl rfl (one_of HT_.out (by kernel_rfl)) (fun K hK => ?_)
  refine gos_ Try.func92 (conf_Length.calls k B7 B8 B9 Ba Bb Bc Bd Be Bf Bg _ _ B1 _ _ (Kd.C_below Bk.out HB.out) Bl.out A4.out) ?_
  rintro e w11 ⟨rfl, hb⟩
  refine ⟨_, rfl, ?_⟩
  replace B0 := bkb_ B0 hb
  replace B3 := bkb_ B3 hb
  replace HB := bst_ HB hb
  (try clear hb)
  (try clear hb2)
  (try clear hk)
  (try clear hi)
  refine hK.out _ _ (cells_11 B0.out) (fun hHeld => ?_)
  clear hK K
  refine nor_ 13 ?_
  refine pur_ 2 (some 14) rfl rfl (any_of HT_.out (by kernel_rfl)) ?_
  refine pur_ 3 (some 15) rfl rfl (any_of HT_.out (by kernel_rfl)) ?_
  refine pur_ 7 (some 19) rfl rfl (any_of HT_.out (by kernel_rfl)) ?_
  refine pur_ 8 (some 2) rfl rfl (any_of HT_.out (by kernel_rfl)) ?_
  refine done_ (done_of HT_.out (by kernel_rfl)) ?_
  try go_wp2
  go_ret
  exact ⟨by first | rfl | (simp [*] <;> rfl), by repeat (first | (with_reducible first | exact HB.out | apply ba_ | apply bn_ | apply bd_ | refine bs_ ?_ Bi.out | refine bs_ ?_ Bh.out) | exact HB.out)⟩
 ·replace c3 := Bool.eq_false_iff.mpr c3
  subst c3
  rw [if_neg (show ¬ (false = true) by decide)] at H
  obtain rfl := Option.some.inj H
  go_enter Try.func58, Try.ntmps58
  go_wp2_with (first | ((with_reducible refine gate_dst (N := 1) rfl ?_); refine bxe_ 1 24 #[.int .i64 B7, .int .i64 B8, .int .i64 B9, .int .i64 Ba, .int .i64 Bb, .int .i64 Bc, .int .i64 Bd, .int .i64 Be, .int .i64 Bf, .int .i64 Bg, .slice B5 B1.length B6] ?_; intro B2 hg w12 hbox hb; have B0 := am_ (hbox); have Bp := gwk_ HB hg; have Bi := Bp; replace HB := bst_ HB hb; clear hb hbox hg; have Bv := cells_11 B0.out; have Bw := frozen_11 B0.out) | ((with_reducible refine gate_callee (f := 62) rfl ?_); refine gom_ (some 7) Try.func62 (bound_of.calls k B7 B8 B9 Ba Bb Bc Bd Be Bf Bg _ _ B1 _ _ (Kd.C_below Bk.out HB.out) Bl.out A2.out) ?_; rintro e w14 ⟨rfl, hb⟩; refine ⟨_, rfl, ?_⟩; replace B0 := bkb_ B0 hb; replace HB := bst_ HB hb; (try clear hb)) | ((with_reducible refine gate_dst (N := 3) rfl ?_); refine bxe_ 3 68 #[.int .i64 0, .int .i64 0, .int .i64 0, .int .i64 0, .int .i64 0, .int .i64 0, .int .i64 0, .int .i64 0, .int .i64 0, .int .i64 0, .slice none 0 0] ?_; intro Bj hg w15 hbox hb; have B3 := am_ (hbox); have Bq := gwk_ HB hg; have Bh := Bq; replace HB := bst_ HB hb; have B4 := nbk_ B0 hg; have Bm := nbs_ B4; replace B0 := bkb_ B0 hb; clear hb hbox hg) | ((with_reducible refine gate_store (t := 68) (p := 3) rfl ?_); refine row_store_event (t := 68) (p := 3) (v := ?vo_w16) ?hgd ?ho ?hn Bj #[.int .i64 B7, .int .i64 B8, .int .i64 B9, .int .i64 Ba, .int .i64 Bb, .int .i64 Bc, .int .i64 Bd, .int .i64 Be, .int .i64 Bf, .int .i64 Bg, .slice B5 B1.length B6] ?hx ?hy 68 #[.int .i64 0, .int .i64 0, .int .i64 0, .int .i64 0, .int .i64 0, .int .i64 0, .int .i64 0, .int .i64 0, .int .i64 0, .int .i64 0, .slice none 0 0] ?hg ?hi ?hold ?h1 ?_; (case hgd => rfl); (case ho => rfl); (case hn => rfl); (case hx => rfl); (case hy => rfl); (case hg => exact (by (with_reducible repeat (first | apply kn_ | apply kd_ | apply ka_)); exact B3.out)); (case hi => kernel_rfl); (case hold => rfl); (case h1 => (first | kernel_rfl | simp [Value.oneCell'])); intro w16 hw; have Br : Aside0 (w16.heap[B2]? = some (.cells #[.int .i64 B7, .int .i64 B8, .int .i64 B9, .int .i64 Ba, .int .i64 Bb, .int .i64 Bc, .int .i64 Bd, .int .i64 Be, .int .i64 Bf, .int .i64 Bg, .slice B5 B1.length B6] 24 (0, 0))) := ⟨(by rw [hw]; exact (by (with_reducible repeat (first | apply kn_ | apply kd_ | apply ka_)); refine blk_farc ?_ B4.out; (with_reducible repeat (first | apply kn_ | apply kd_ | apply ka_)); exact B0.out))⟩; have Bs : Aside0 (w16.heap[Bj]? = some (.cells #[.int .i64 B7, .int .i64 B8, .int .i64 B9, .int .i64 Ba, .int .i64 Bb, .int .i64 Bc, .int .i64 Bd, .int .i64 Be, .int .i64 Bf, .int .i64 Bg, .slice B5 B1.length B6] 68 (0, 0))) := ⟨(by rw [hw]; exact (by (with_reducible repeat (first | apply kn_ | apply kd_ | apply ka_)); refine setRow_heap _ _ #[.int .i64 0, .int .i64 0, .int .i64 0, .int .i64 0, .int .i64 0, .int .i64 0, .int .i64 0, .int .i64 0, .int .i64 0, .int .i64 0, .slice none 0 0] _ 68 (0, 0) ?_; (with_reducible repeat (first | apply kn_ | apply kd_ | apply ka_)); exact B3.out))⟩; have Bt : Aside0 (Below w.heap.size w w16) := ⟨(by rw [hw]; exact (by repeat (first | (with_reducible first | exact HB.out | refine below_setc ?_ Bh.out | apply below_alloc | apply pw_below_drewN | apply below_drew1 | refine bs_ ?_ Bi.out | refine bs_ ?_ Bh.out) | exact HB.out)))⟩; clear hw; clear B0; clear B3; clear HB; have B0 := Br; have B3 := Bs; have HB := Bt; clear Br Bs Bt))
  go_ret
  exact ⟨by first | rfl | (simp [*] <;> rfl), by repeat (first | (with_reducible first | exact HB.out | apply ba_ | apply bn_ | apply bd_ | refine bs_ ?_ Bi.out | refine bs_ ?_ Bh.out) | exact HB.out)⟩
end Go.Proofs.Ythdoghhmooodjaa.Gn
