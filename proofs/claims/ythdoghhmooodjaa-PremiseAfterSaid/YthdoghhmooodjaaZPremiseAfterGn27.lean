import Derived.Test.YthdoghhmooodjaaZPremiseAfterGn0
import Derived.Test.YthdoghhmooodjaaZPremiseAfterGn1
import Derived.Test.YthdoghhmooodjaaZPremiseAfterGn25
import Derived.Test.YthdoghhmooodjaaZPremiseAfterGn26
namespace Go.Proofs.Ythdoghhmooodjaa.Gn
open Go.RowKit Go.Proofs.YthdoghhmooodjaaW.PrintWords Go.Proofs.YthdoghhmooodjaaW.PrintLast Go.Proofs.YthdoghhmooodjaaW.PrintMore
attribute [local go_sem] max2_int min2_int max_two min_two max_three min_three max_four min_four   -- for this text's walks alone
set_option linter.unusedVariables false
set_option linter.unusedSimpArgs false
def r04_Right.f (k : Nat) (B6 B7 B4 B2 B1 B3 B8 B5 B9 Ba : Int) (B0 : List Int) : Option (Int) := (r03_Plain.f k B6 B7 B4 B2 B1 B3 B8 B5 B9 Ba B0).bind fun Bc => (if Bc = 0 then ((r04_Guard.f k B6 B7 B4 B2 B1 B3 B8 B5 B9 Ba B0).bind fun Bb => ((r04_Middle.f k B6 B7 B4 B2 B1 B3 B8 B5 B9 Ba B0 (wrap64 ((B0.length : Int) - 1))).bind fun Bd => (if B5 ≤ (wrap64 (2 * Bb)) then (some 8) else (if (wrap64 ((wrap64 (Bd + (wrap64 (B4 * B1)))) + Bb)) > (wrap64 ((wrap64 (B2 - 1)) * (wrap64 (B1 - B3)))) then (some 8) else (if (wrap64 (B2 * (wrap64 (B1 + B3)))) ≥ 32768 then (some 8) else (some 0)))))) else ((r03_Plain.f k B6 B7 B4 B2 B1 B3 B8 B5 B9 Ba B0).bind fun Be => (some Be)))
def r04_Right.T4 : Bool × List (List Nat × List Nat) := (true, [([], []), ([], []), ([1], [1]), ([2], [2]), ([3], [3]), ([0, 4], [0, 4]), ([], []), ([6], [6]), ([], []), ([8], [8]), ([7, 9], [7, 9]), ([5, 10], [5, 10]), ([], []), ([11, 12], [11, 12]), ([13, 5, 0, 1, 2, 3, 4, 5, 6, 7, 8, 9, 10, 11, 12, 13], [13])])
def r04_Right.B4 : List Nat := [0, 0, 2, 6, 14, 31, 0, 64, 0, 256, 960, 2047, 0, 8191, 16383]
theorem r04_Right.tab4 : rtab .any (opsOf Try.f42 4) = r04_Right.T4 := by kernel_rfl
theorem r04_Right.bits4 : waitsOk r04_Right.T4.2 r04_Right.B4 = true := by kernel_rfl
set_option maxHeartbeats 8000000 in
set_option maxRecDepth 100000 in
theorem r04_Right.calls (k : Nat) (Ba Bb B6 B4 B3 B5 Bc B7 Bd Be : Int) (Bf : Option Addr) (Bg : Nat) (B2 : List Int) (r : Int) (w : World) (Bk : Kd.C (Kd.int .i64) w Bf B2.length B2) (Bl : B2.length ≤ Bg) (h : r04_Right.f k Ba Bb B6 B4 B3 B5 Bc B7 Bd Be B2 = some r) :
  Calls Try.prog 42 #[.agg #[.int .i64 Ba, .int .i64 Bb, .int .i64 B6, .int .i64 B4, .int .i64 B3, .int .i64 B5, .int .i64 Bc, .int .i64 B7, .int .i64 Bd, .int .i64 Be, .slice Bf B2.length Bg]] w fun e w' => e = .returned (.int .i64 r) ∧ Below w.heap.size w w' := by
 have Dh := Try.underlying24
 have B8 := am_ Bk
 have B9 := am_ Bl
 clear Bk Bl
 have HB := am_ (Below.refl w.heap.size w)
 have H := h
 unfold r04_Right.f at H
 clear h
 obtain ⟨Bm, A2, H⟩ := bes_ H
 try dsimp only at H
 by_cases c3 : Bm = 0
 ·rw [if_pos c3] at H
  have Bt : (Bm == 0) = true := beq_iff_eq.mpr c3
  have Bu : (Bm != 0) = false := bne_eq_false_iff_eq.mpr c3
  clear c3
  obtain ⟨Bj, A4, H⟩ := bes_ H
  try dsimp only at H
  obtain ⟨Bn, A5, H⟩ := bes_ H
  try dsimp only at H
  by_cases c6 : B7 ≤ (wrap64 (2 * Bj))
  ·rw [if_pos c6] at H
   have Bv : decide (B7 ≤ (wrap64 (2 * Bj))) = true := decide_eq_true c6
   clear c6
   obtain rfl := Option.some.inj H
   go_enter Try.func42, Try.ntmps42
   try go_wp2_with (first | ((with_reducible refine gate_dst (N := 1) rfl ?_); refine bxe_ 1 24 #[.int .i64 Ba, .int .i64 Bb, .int .i64 B6, .int .i64 B4, .int .i64 B3, .int .i64 B5, .int .i64 Bc, .int .i64 B7, .int .i64 Bd, .int .i64 Be, .slice Bf B2.length Bg] ?_; intro B1 hg w7 hbox hb; have B0 := am_ (hbox); have Bh := gwk_ HB hg; have Bi := Bh; replace HB := bst_ HB hb; clear hb hbox hg; have Di := cells_11 B0.out; have Dj := frozen_11 B0.out) | ((with_reducible refine gate_callee (f := 56) rfl ?_); refine gom_ (some 6) Try.func56 (r03_Plain.calls k Ba Bb B6 B4 B3 B5 Bc B7 Bd Be _ _ B2 _ _ (Kd.C_below B8.out HB.out) B9.out A2.out) ?_; rintro e w9 ⟨rfl, hb⟩; refine ⟨_, rfl, ?_⟩; replace B0 := bkb_ B0 hb; replace HB := bst_ HB hb; (try clear hb); have Bx := cells_11 B0.out; have By := frozen_11 B0.out) | ((with_reducible refine gate_callee (f := 75) rfl ?_); refine gom_ (some 11) Try.func75 (r04_Guard.calls k Ba Bb B6 B4 B3 B5 Bc B7 Bd Be _ _ B2 _ _ (Kd.C_below B8.out HB.out) B9.out A4.out) ?_; rintro e w11 ⟨rfl, hb⟩; refine ⟨_, rfl, ?_⟩; replace B0 := bkb_ B0 hb; replace HB := bst_ HB hb; (try clear hb)))
   replace B0 := am_ (blk_drew B0.out)
   replace HB := am_ (below_drew1 HB.out)
   refine start_ (n := 15) (S := fun w' => ce_ w' B1 0 (.int .i64 Ba) ∧ ce_ w' B1 1 (.int .i64 Bb) ∧ ce_ w' B1 2 (.int .i64 B6) ∧ ce_ w' B1 3 (.int .i64 B4) ∧ ce_ w' B1 4 (.int .i64 B3) ∧ ce_ w' B1 5 (.int .i64 B5) ∧ ce_ w' B1 6 (.int .i64 Bc) ∧ ce_ w' B1 7 (.int .i64 B7) ∧ ce_ w' B1 8 (.int .i64 Bd) ∧ ce_ w' B1 9 (.int .i64 Be) ∧ ce_ w' B1 10 (.slice Bf B2.length Bg)) (ds := []) #[false, false, false, false, false, false, false, false, false, false, false, false, false, false, false] (by kernel_rfl) rfl rfl ⟨(blk_cell B0.out 0).trans rfl, (blk_cell B0.out 1).trans rfl, (blk_cell B0.out 2).trans rfl, (blk_cell B0.out 3).trans rfl, (blk_cell B0.out 4).trans rfl, (blk_cell B0.out 5).trans rfl, (blk_cell B0.out 6).trans rfl, (blk_cell B0.out 7).trans rfl, (blk_cell B0.out 8).trans rfl, (blk_cell B0.out 9).trans rfl, (blk_cell B0.out 10).trans rfl⟩ (fun hHeld => ?_); refine with_tabW r04_Right.tab4 r04_Right.bits4 (fun HT_ HW_ => ?_)
   generalize w11.drew = w12 at B0 HB hHeld ⊢
   refine pur_ 1 (some 13) rfl rfl (any_of HT_.out (by kernel_rfl)) ?_
   refine pur_ 6 (some 18) rfl rfl (any_of HT_.out (by kernel_rfl)) ?_
   refine pur_ 8 (some 20) rfl rfl (any_of HT_.out (by kernel_rfl)) ?_
   refine pur_ 12 (some 24) rfl rfl (any_of HT_.out (by kernel_rfl)) ?_
   refine tak_ 0 (some 12) rfl rfl (take_ofW HT_.out HW_.out (by kernel_rfl)) hHeld ?_ (by rintro w' ⟨s0, s1, s2, s3, s4, s5, s6, s7, s8, s9, s10⟩; go_simp; with_reducible rfl)
   refine tak_ 2 (some 14) rfl rfl (take_ofW HT_.out HW_.out (by kernel_rfl)) hHeld ?_ (by rintro w' ⟨s0, s1, s2, s3, s4, s5, s6, s7, s8, s9, s10⟩; go_simp; with_reducible rfl)
   refine pur_ 3 (some 15) rfl rfl (any_of HT_.out (by kernel_rfl)) ?_
   refine pur_ 4 (some 16) rfl rfl (any_of HT_.out (by kernel_rfl)) ?_
   refine tak_ 7 (some 19) rfl rfl (take_ofW HT_.out HW_.out (by kernel_rfl)) hHeld ?_ (by rintro w' ⟨s0, s1, s2, s3, s4, s5, s6, s7, s8, s9, s10⟩; go_simp; with_reducible rfl)
   refine tak_ 9 (some 21) rfl rfl (take_ofW HT_.out HW_.out (by kernel_rfl)) hHeld ?_ (by rintro w' ⟨s0, s1, s2, s3, s4, s5, s6, s7, s8, s9, s10⟩; go_simp; with_reducible rfl)
   refine pur_ 10 (some 22) rfl rfl (any_of HT_.out (by kernel_rfl)) ?_
   refine oon_ 5 (some 17) rfl rfl (one_of HT_.out (by kernel_rfl)) (fun K hK => ?_)
   refine gos_ Try.func76 (r04_Middle.calls k Ba Bb B6 B4 B3 B5 Bc B7 Bd Be _ _ B2 (wrap64 ((B2.length : Int) - 1)) _ _ (Kd.C_below B8.out HB.out) B9.out A5.out) ?_
   rintro e w13 ⟨rfl, hb⟩
   refine ⟨_, rfl, ?_⟩
   replace B0 := bkb_ B0 hb
   replace HB := bst_ HB hb
   (try clear hb)
   (try clear hb2)
   (try clear hk)
   (try clear hi)
   refine hK.out _ _ (cells_11 B0.out) (fun hHeld => ?_)
   clear hK K
   refine nor_ 17 ?_
   refine pur_ 11 (some 23) rfl rfl (any_of HT_.out (by kernel_rfl)) ?_
   refine pur_ 13 (some 25) rfl rfl (any_of HT_.out (by kernel_rfl)) ?_
   refine pur_ 14 (some 4) rfl rfl (any_of HT_.out (by kernel_rfl)) ?_
   refine done_ (done_of HT_.out (by kernel_rfl)) ?_
   have Bz := cells_11 B0.out
   have D0 := frozen_11 B0.out
   try go_wp2
   go_ret
   exact ⟨by first | rfl | (simp [*] <;> rfl), by repeat (first | (with_reducible first | exact HB.out | apply ba_ | apply bn_ | apply bd_ | refine bs_ ?_ Bi.out) | exact HB.out)⟩
  ·rw [if_neg c6] at H
   have Bv : decide (B7 ≤ (wrap64 (2 * Bj))) = false := decide_eq_false c6
   clear c6
   by_cases Bo : (wrap64 ((wrap64 (Bn + (wrap64 (B6 * B3)))) + Bj)) > (wrap64 ((wrap64 (B4 - 1)) * (wrap64 (B3 - B5))))
   ·rw [if_pos Bo] at H
    have Bp : decide ((wrap64 ((wrap64 (B4 - 1)) * (wrap64 (B3 - B5)))) < (wrap64 ((wrap64 (Bn + (wrap64 (B6 * B3)))) + Bj))) = true := decide_eq_true Bo
    clear Bo
    obtain rfl := Option.some.inj H
    go_enter Try.func42, Try.ntmps42
    try go_wp2_with (first | ((with_reducible refine gate_dst (N := 1) rfl ?_); refine bxe_ 1 24 #[.int .i64 Ba, .int .i64 Bb, .int .i64 B6, .int .i64 B4, .int .i64 B3, .int .i64 B5, .int .i64 Bc, .int .i64 B7, .int .i64 Bd, .int .i64 Be, .slice Bf B2.length Bg] ?_; intro B1 hg w16 hbox hb; have B0 := am_ (hbox); have Bh := gwk_ HB hg; have Bi := Bh; replace HB := bst_ HB hb; clear hb hbox hg; have D1 := cells_11 B0.out; have D2 := frozen_11 B0.out) | ((with_reducible refine gate_callee (f := 56) rfl ?_); refine gom_ (some 6) Try.func56 (r03_Plain.calls k Ba Bb B6 B4 B3 B5 Bc B7 Bd Be _ _ B2 _ _ (Kd.C_below B8.out HB.out) B9.out A2.out) ?_; rintro e w18 ⟨rfl, hb⟩; refine ⟨_, rfl, ?_⟩; replace B0 := bkb_ B0 hb; replace HB := bst_ HB hb; (try clear hb); have D3 := cells_11 B0.out; have D4 := frozen_11 B0.out) | ((with_reducible refine gate_callee (f := 75) rfl ?_); refine gom_ (some 11) Try.func75 (r04_Guard.calls k Ba Bb B6 B4 B3 B5 Bc B7 Bd Be _ _ B2 _ _ (Kd.C_below B8.out HB.out) B9.out A4.out) ?_; rintro e w20 ⟨rfl, hb⟩; refine ⟨_, rfl, ?_⟩; replace B0 := bkb_ B0 hb; replace HB := bst_ HB hb; (try clear hb)))
    replace B0 := am_ (blk_drew B0.out)
    replace HB := am_ (below_drew1 HB.out)
    refine start_ (n := 15) (S := fun w' => ce_ w' B1 0 (.int .i64 Ba) ∧ ce_ w' B1 1 (.int .i64 Bb) ∧ ce_ w' B1 2 (.int .i64 B6) ∧ ce_ w' B1 3 (.int .i64 B4) ∧ ce_ w' B1 4 (.int .i64 B3) ∧ ce_ w' B1 5 (.int .i64 B5) ∧ ce_ w' B1 6 (.int .i64 Bc) ∧ ce_ w' B1 7 (.int .i64 B7) ∧ ce_ w' B1 8 (.int .i64 Bd) ∧ ce_ w' B1 9 (.int .i64 Be) ∧ ce_ w' B1 10 (.slice Bf B2.length Bg)) (ds := []) #[false, false, false, false, false, false, false, false, false, false, false, false, false, false, false] (by kernel_rfl) rfl rfl ⟨(blk_cell B0.out 0).trans rfl, (blk_cell B0.out 1).trans rfl, (blk_cell B0.out 2).trans rfl, (blk_cell B0.out 3).trans rfl, (blk_cell B0.out 4).trans rfl, (blk_cell B0.out 5).trans rfl, (blk_cell B0.out 6).trans rfl, (blk_cell B0.out 7).trans rfl, (blk_cell B0.out 8).trans rfl, (blk_cell B0.out 9).trans rfl, (blk_cell B0.out 10).trans rfl⟩ (fun hHeld => ?_); refine with_tabW r04_Right.tab4 r04_Right.bits4 (fun HT_ HW_ => ?_)
    generalize w20.drew = w21 at B0 HB hHeld ⊢
    refine pur_ 1 (some 13) rfl rfl (any_of HT_.out (by kernel_rfl)) ?_
    refine pur_ 6 (some 18) rfl rfl (any_of HT_.out (by kernel_rfl)) ?_
    refine pur_ 8 (some 20) rfl rfl (any_of HT_.out (by kernel_rfl)) ?_
    refine pur_ 12 (some 24) rfl rfl (any_of HT_.out (by kernel_rfl)) ?_
    refine tak_ 0 (some 12) rfl rfl (take_ofW HT_.out HW_.out (by kernel_rfl)) hHeld ?_ (by rintro w' ⟨s0, s1, s2, s3, s4, s5, s6, s7, s8, s9, s10⟩; go_simp; with_reducible rfl)
    refine tak_ 2 (some 14) rfl rfl (take_ofW HT_.out HW_.out (by kernel_rfl)) hHeld ?_ (by rintro w' ⟨s0, s1, s2, s3, s4, s5, s6, s7, s8, s9, s10⟩; go_simp; with_reducible rfl)
    refine pur_ 3 (some 15) rfl rfl (any_of HT_.out (by kernel_rfl)) ?_
    refine pur_ 4 (some 16) rfl rfl (any_of HT_.out (by kernel_rfl)) ?_
    refine tak_ 7 (some 19) rfl rfl (take_ofW HT_.out HW_.out (by kernel_rfl)) hHeld ?_ (by rintro w' ⟨s0, s1, s2, s3, s4, s5, s6, s7, s8, s9, s10⟩; go_simp; with_reducible rfl)
    refine tak_ 9 (some 21) rfl rfl (take_ofW HT_.out HW_.out (by kernel_rfl)) hHeld ?_ (by rintro w' ⟨s0, s1, s2, s3, s4, s5, s6, s7, s8, s9, s10⟩; go_simp; with_reducible rfl)
    refine pur_ 10 (some 22) rfl rfl (any_of HT_.out (by kernel_rfl)) ?_
    refine oon_ 5 (some 17) rfl rfl (one_of HT_.out (by kernel_rfl)) (fun K hK => ?_)
    refine gos_ Try.func76 (r04_Middle.calls k Ba Bb B6 B4 B3 B5 Bc B7 Bd Be _ _ B2 (wrap64 ((B2.length : Int) - 1)) _ _ (Kd.C_below B8.out HB.out) B9.out A5.out) ?_
    rintro e w22 ⟨rfl, hb⟩
    refine ⟨_, rfl, ?_⟩
    replace B0 := bkb_ B0 hb
    replace HB := bst_ HB hb
    (try clear hb)
    (try clear hb2)
    (try clear hk)
    (try clear hi)
    refine hK.out _ _ (cells_11 B0.out) (fun hHeld => ?_)
    clear hK K
    refine nor_ 17 ?_
    refine pur_ 11 (some 23) rfl rfl (any_of HT_.out (by kernel_rfl)) ?_
    refine pur_ 13 (some 25) rfl rfl (any_of HT_.out (by kernel_rfl)) ?_
    refine pur_ 14 (some 4) rfl rfl (any_of HT_.out (by kernel_rfl)) ?_
    refine done_ (done_of HT_.out (by kernel_rfl)) ?_
    have D5 := cells_11 B0.out
    have D6 := frozen_11 B0.out
    try go_wp2
    go_ret
    exact ⟨by first | rfl | (simp [*] <;> rfl), by repeat (first | (with_reducible first | exact HB.out | apply ba_ | apply bn_ | apply bd_ | refine bs_ ?_ Bi.out) | exact HB.out)⟩
   ·rw [if_neg Bo] at H
    have Bp : decide ((wrap64 ((wrap64 (B4 - 1)) * (wrap64 (B3 - B5)))) < (wrap64 ((wrap64 (Bn + (wrap64 (B6 * B3)))) + Bj))) = false := decide_eq_false Bo
    clear Bo
    by_cases Bq : (wrap64 (B4 * (wrap64 (B3 + B5)))) ≥ 32768
    rw [if_pos Bq] at H
    have Br : decide (32768 ≤ (wrap64 (B4 * (wrap64 (B3 + B5))))) = true := decide_eq_true Bq
    rotate_left
    rw [if_neg Bq] at H
    have Br : decide (32768 ≤ (wrap64 (B4 * (wrap64 (B3 + B5))))) = false := decide_eq_false Bq
    rotate_left
    all_goals
     clear Bq
     obtain rfl := Option.some.inj H
     go_enter Try.func42, Try.ntmps42
     try go_wp2_with (first | ((with_reducible refine gate_dst (N := 1) rfl ?_); refine bxe_ 1 24 #[.int .i64 Ba, .int .i64 Bb, .int .i64 B6, .int .i64 B4, .int .i64 B3, .int .i64 B5, .int .i64 Bc, .int .i64 B7, .int .i64 Bd, .int .i64 Be, .slice Bf B2.length Bg] ?_; intro B1 hg w25 hbox hb; have B0 := am_ (hbox); have Bh := gwk_ HB hg; have Bi := Bh; replace HB := bst_ HB hb; clear hb hbox hg; have D7 := cells_11 B0.out; have D8 := frozen_11 B0.out) | ((with_reducible refine gate_callee (f := 56) rfl ?_); refine gom_ (some 6) Try.func56 (r03_Plain.calls k Ba Bb B6 B4 B3 B5 Bc B7 Bd Be _ _ B2 _ _ (Kd.C_below B8.out HB.out) B9.out A2.out) ?_; rintro e w27 ⟨rfl, hb⟩; refine ⟨_, rfl, ?_⟩; replace B0 := bkb_ B0 hb; replace HB := bst_ HB hb; (try clear hb); have D9 := cells_11 B0.out; have Da := frozen_11 B0.out) | ((with_reducible refine gate_callee (f := 75) rfl ?_); refine gom_ (some 11) Try.func75 (r04_Guard.calls k Ba Bb B6 B4 B3 B5 Bc B7 Bd Be _ _ B2 _ _ (Kd.C_below B8.out HB.out) B9.out A4.out) ?_; rintro e w29 ⟨rfl, hb⟩; refine ⟨_, rfl, ?_⟩; replace B0 := bkb_ B0 hb; replace HB := bst_ HB hb; (try clear hb)))
     replace B0 := am_ (blk_drew B0.out)
     replace HB := am_ (below_drew1 HB.out)
     refine start_ (n := 15) (S := fun w' => ce_ w' B1 0 (.int .i64 Ba) ∧ ce_ w' B1 1 (.int .i64 Bb) ∧ ce_ w' B1 2 (.int .i64 B6) ∧ ce_ w' B1 3 (.int .i64 B4) ∧ ce_ w' B1 4 (.int .i64 B3) ∧ ce_ w' B1 5 (.int .i64 B5) ∧ ce_ w' B1 6 (.int .i64 Bc) ∧ ce_ w' B1 7 (.int .i64 B7) ∧ ce_ w' B1 8 (.int .i64 Bd) ∧ ce_ w' B1 9 (.int .i64 Be) ∧ ce_ w' B1 10 (.slice Bf B2.length Bg)) (ds := []) #[false, false, false, false, false, false, false, false, false, false, false, false, false, false, false] (by kernel_rfl) rfl rfl ⟨(blk_cell B0.out 0).trans rfl, (blk_cell B0.out 1).trans rfl, (blk_cell B0.out 2).trans rfl, (blk_cell B0.out 3).trans rfl, (blk_cell B0.out 4).trans rfl, (blk_cell B0.out 5).trans rfl, (blk_cell B0.out 6).trans rfl, (blk_cell B0.out 7).trans rfl, (blk_cell B0.out 8).trans rfl, (blk_cell B0.out 9).trans rfl, (blk_cell B0.out 10).trans rfl⟩ (fun hHeld => ?_); refine with_tabW r04_Right.tab4 r04_Right.bits4 (fun HT_ HW_ => ?_)
     generalize w29.drew = w30 at B0 HB hHeld ⊢
     refine pur_ 1 (some 13) rfl rfl (any_of HT_.out (by kernel_rfl)) ?_
     refine pur_ 6 (some 18) rfl rfl (any_of HT_.out (by kernel_rfl)) ?_
     refine pur_ 8 (some 20) rfl rfl (any_of HT_.out (by kernel_rfl)) ?_
     refine pur_ 12 (some 24) rfl rfl (any_of HT_.out (by kernel_rfl)) ?_
     refine tak_ 0 (some 12) rfl rfl (take_ofW HT_.out HW_.out (by kernel_rfl)) hHeld ?_ (by rintro w' ⟨s0, s1, s2, s3, s4, s5, s6, s7, s8, s9, s10⟩; go_simp; with_reducible rfl)
     refine tak_ 2 (some 14) rfl rfl (take_ofW HT_.out HW_.out (by kernel_rfl)) hHeld ?_ (by rintro w' ⟨s0, s1, s2, s3, s4, s5, s6, s7, s8, s9, s10⟩; go_simp; with_reducible rfl)
     refine pur_ 3 (some 15) rfl rfl (any_of HT_.out (by kernel_rfl)) ?_
     refine pur_ 4 (some 16) rfl rfl (any_of HT_.out (by kernel_rfl)) ?_
     refine tak_ 7 (some 19) rfl rfl (take_ofW HT_.out HW_.out (by kernel_rfl)) hHeld ?_ (by rintro w' ⟨s0, s1, s2, s3, s4, s5, s6, s7, s8, s9, s10⟩; go_simp; with_reducible rfl)
     refine tak_ 9 (some 21) rfl rfl (take_ofW HT_.out HW_.out (by kernel_rfl)) hHeld ?_ (by rintro w' ⟨s0, s1, s2, s3, s4, s5, s6, s7, s8, s9, s10⟩; go_simp; with_reducible rfl)
     refine pur_ 10 (some 22) rfl rfl (any_of HT_.out (by kernel_rfl)) ?_
     refine oon_ 5 (some 17) rfl rfl (one_of HT_.out (by kernel_rfl)) (fun K hK => ?_)
     refine gos_ Try.func76 (r04_Middle.calls k Ba Bb B6 B4 B3 B5 Bc B7 Bd Be _ _ B2 (wrap64 ((B2.length : Int) - 1)) _ _ (Kd.C_below B8.out HB.out) B9.out A5.out) ?_
     rintro e w31 ⟨rfl, hb⟩
     refine ⟨_, rfl, ?_⟩
     replace B0 := bkb_ B0 hb
     replace HB := bst_ HB hb
     (try clear hb)
     (try clear hb2)
     (try clear hk)
     (try clear hi)
     refine hK.out _ _ (cells_11 B0.out) (fun hHeld => ?_)
     clear hK K
     refine nor_ 17 ?_
     refine pur_ 11 (some 23) rfl rfl (any_of HT_.out (by kernel_rfl)) ?_
     refine pur_ 13 (some 25) rfl rfl (any_of HT_.out (by kernel_rfl)) ?_
     refine pur_ 14 (some 4) rfl rfl (any_of HT_.out (by kernel_rfl)) ?_
     refine done_ (done_of HT_.out (by kernel_rfl)) ?_
     have Db := cells_11 B0.out
     have Dc := frozen_11 B0.out
     try go_wp2
     go_ret
     exact ⟨by first | rfl | (simp [*] <;> rfl), by repeat (first | (with_reducible first | exact HB.out | apply ba_ | apply bn_ | apply bd_ | refine bs_ ?_ Bi.out) | exact HB.out)⟩
 ·rw [if_neg c3] at H
  have Bt : (Bm == 0) = false := beq_eq_false_iff_ne.mpr c3
  have Bu : (Bm != 0) = true := bne_iff_ne.mpr c3
  replace H := Option.bind_eq_some_iff.mp H
  obtain ⟨Bw, Bs, H⟩ := H
  replace H : (some Bw) = some r := H
  have Dk := am_ Bs
  clear Bs
  obtain rfl := Option.some.inj H
  go_enter Try.func42, Try.ntmps42
  go_wp2_with (first | ((with_reducible refine gate_dst (N := 1) rfl ?_); refine bxe_ 1 24 #[.int .i64 Ba, .int .i64 Bb, .int .i64 B6, .int .i64 B4, .int .i64 B3, .int .i64 B5, .int .i64 Bc, .int .i64 B7, .int .i64 Bd, .int .i64 Be, .slice Bf B2.length Bg] ?_; intro B1 hg w42 hbox hb; have B0 := am_ (hbox); have Bh := gwk_ HB hg; have Bi := Bh; replace HB := bst_ HB hb; clear hb hbox hg; have Dd := cells_11 B0.out; have De := frozen_11 B0.out) | ((with_reducible refine gate_callee (f := 56) rfl ?_); refine gom_ (some 6) Try.func56 (r03_Plain.calls k Ba Bb B6 B4 B3 B5 Bc B7 Bd Be _ _ B2 _ _ (Kd.C_below B8.out HB.out) B9.out A2.out) ?_; rintro e w44 ⟨rfl, hb⟩; refine ⟨_, rfl, ?_⟩; replace B0 := bkb_ B0 hb; replace HB := bst_ HB hb; (try clear hb); have Df := cells_11 B0.out; have Dg := frozen_11 B0.out) | ((with_reducible refine gate_callee (f := 56) rfl ?_); refine gom_ (some 9) Try.func56 (r03_Plain.calls k Ba Bb B6 B4 B3 B5 Bc B7 Bd Be _ _ B2 _ _ (Kd.C_below B8.out HB.out) B9.out Dk.out) ?_; rintro e w46 ⟨rfl, hb⟩; refine ⟨_, rfl, ?_⟩; replace B0 := bkb_ B0 hb; replace HB := bst_ HB hb; (try clear hb)))
  go_ret
  exact ⟨by first | rfl | (simp [*] <;> rfl), by repeat (first | (with_reducible first | exact HB.out | apply ba_ | apply bn_ | apply bd_ | refine bs_ ?_ Bi.out) | exact HB.out)⟩
end Go.Proofs.Ythdoghhmooodjaa.Gn
namespace Go.Proofs.Ythdoghhmooodjaa.Gn
open Go.RowKit Go.Proofs.YthdoghhmooodjaaW.PrintWords Go.Proofs.YthdoghhmooodjaaW.PrintLast Go.Proofs.YthdoghhmooodjaaW.PrintMore
attribute [local go_sem] max2_int min2_int max_two min_two max_three min_three max_four min_four   -- for this text's walks alone
set_option linter.unusedVariables false
set_option linter.unusedSimpArgs false
def r01_Clamp.f (a0 a1 a2 : Int) : Option (Int) := if a0 < a1 then (some a1) else (if a2 < a1 then (some a1) else (some (mn a0 a2)))
set_option maxHeartbeats 8000000 in
set_option maxRecDepth 100000 in
theorem r01_Clamp.calls (a0 a1 a2 r : Int) (w : World) (h : r01_Clamp.f a0 a1 a2 = some r) :
  Calls Try.prog 50 #[.int .i64 a0, .int .i64 a1, .int .i64 a2] w fun e w' => e = .returned (.int .i64 r) ∧ Below w.heap.size w w' := by
 have HB := am_ (Below.refl w.heap.size w)
 have H := h
 unfold r01_Clamp.f at H
 clear h
 by_cases c4 : a0 < a1
 ·rw [if_pos c4] at H
  have B0 : decide (a0 < a1) = true := decide_eq_true c4
  clear c4
  obtain rfl := Option.some.inj H
  go_enter Try.func50, Try.ntmps50
  go_wp2
  go_ret
  exact ⟨by first | rfl | (simp [*] <;> rfl), by repeat (first | (with_reducible first | exact HB.out | apply ba_ | apply bn_ | apply bd_) | exact HB.out)⟩
 ·rw [if_neg c4] at H
  have B0 : decide (a0 < a1) = false := decide_eq_false c4
  clear c4
  by_cases c5 : a2 < a1
  ·rw [if_pos c5] at H
   have B1 : decide (a2 < a1) = true := decide_eq_true c5
   clear c5
   obtain rfl := Option.some.inj H
   go_enter Try.func50, Try.ntmps50
   go_wp2
   go_ret
   exact ⟨by first | rfl | (simp [*] <;> rfl), by repeat (first | (with_reducible first | exact HB.out | apply ba_ | apply bn_ | apply bd_) | exact HB.out)⟩
  ·rw [if_neg c5] at H
   have B1 : decide (a2 < a1) = false := decide_eq_false c5
   clear c5
   obtain ⟨ji6, hji6⟩ : ∃ j_ : Int, (mn a0 a2) = j_ := ⟨_, rfl⟩
   replace H : (some ji6) = some r := by first | (rw [hji6] at H; exact H) | (simp only [hji6] at H ⊢; exact H)
   have B2 : (if a2 < a0 then a2 else a0) = ji6 := hji6
   obtain rfl := Option.some.inj H
   go_enter Try.func50, Try.ntmps50
   go_wp2
   go_ret
   exact ⟨by first | rfl | (simp [errW_none, errW_some] <;> rfl) | (simp only [← hji6]; first | rfl | (simp [errW_none, errW_some] <;> rfl)) | (simp [*, errW_none, errW_some] <;> rfl), by repeat (first | (with_reducible first | exact HB.out | apply ba_ | apply bn_ | apply bd_) | exact HB.out)⟩
end Go.Proofs.Ythdoghhmooodjaa.Gn
namespace Go.Proofs.Ythdoghhmooodjaa.Gn
open Go.RowKit Go.Proofs.YthdoghhmooodjaaW.PrintWords Go.Proofs.YthdoghhmooodjaaW.PrintLast Go.Proofs.YthdoghhmooodjaaW.PrintMore
attribute [local go_sem] max2_int min2_int max_two min_two max_three min_three max_four min_four   -- for this text's walks alone
set_option linter.unusedVariables false
set_option linter.unusedSimpArgs false
def r33_node.f (B0 B3 B4 B5 B6 B7 B8 B9 Ba Bb : Int) (B2 : List Int) (a1 : Int) : Option (Bool) := if a1 ≥ 0 then ((r01_Clamp.f B0 0 13).bind fun B1 => (some (decide (a1 < B1)))) else (some false)
set_option maxHeartbeats 8000000 in
set_option maxRecDepth 100000 in
theorem r33_node.calls (B4 B9 Ba Bb Bc Bd Be Bf Bg Bh : Int) (B2 : Option Addr) (B3 : Nat) (B0 : List Int) (a1 : Int) (r : Bool) (w : World) (B5 : Kd.C (Kd.int .i64) w B2 B0.length B0) (B6 : B0.length ≤ B3) (h : r33_node.f B4 B9 Ba Bb Bc Bd Be Bf Bg Bh B0 a1 = some r) :
  Calls Try.prog 43 #[.agg #[.int .i64 B4, .int .i64 B9, .int .i64 Ba, .int .i64 Bb, .int .i64 Bc, .int .i64 Bd, .int .i64 Be, .int .i64 Bf, .int .i64 Bg, .int .i64 Bh, .slice B2 B0.length B3], .int .i64 a1] w fun e w' => e = .returned (.bool r) ∧ Below w.heap.size w w' := by
 have Bo := Try.underlying24
 have Bj := am_ B5
 have Bk := am_ B6
 clear B5 B6
 have HB := am_ (Below.refl w.heap.size w)
 have H := h
 unfold r33_node.f at H
 clear h
 by_cases c3 : a1 ≥ 0
 ·rw [if_pos c3] at H
  have Bl : decide (0 ≤ a1) = true := decide_eq_true c3
  clear c3
  replace H := Option.bind_eq_some_iff.mp H
  obtain ⟨Bm, Bn, H⟩ := H
  replace H : (some (decide (a1 < Bm))) = some r := H
  have A4 := am_ Bn
  clear Bn
  obtain rfl := Option.some.inj H
  go_enter Try.func43, Try.ntmps43
  go_wp2_with (first | ((with_reducible refine gate_dst (N := 2) rfl ?_); refine bxe_ 2 24 #[.int .i64 B4, .int .i64 B9, .int .i64 Ba, .int .i64 Bb, .int .i64 Bc, .int .i64 Bd, .int .i64 Be, .int .i64 Bf, .int .i64 Bg, .int .i64 Bh, .slice B2 B0.length B3] ?_; intro Bi hg w5 hbox hb; have B1 := am_ (hbox); have B7 := gwk_ HB hg; have B8 := B7; replace HB := bst_ HB hb; clear hb hbox hg; have Bp := cells_11 B1.out; have Bq := frozen_11 B1.out) | (go_at_call 50; (with_reducible refine (r01_Clamp.calls B4 0 13 _ _ A4.out).mono ?_); rintro e w7 ⟨rfl, hb⟩; replace B1 := bkb_ B1 hb; replace HB := bst_ HB hb; (try clear hb)))
  go_ret
  exact ⟨by first | rfl | (simp [*] <;> rfl), by repeat (first | (with_reducible first | exact HB.out | apply ba_ | apply bn_ | apply bd_ | refine bs_ ?_ B8.out) | exact HB.out)⟩
 ·rw [if_neg c3] at H
  have Bl : decide (0 ≤ a1) = false := decide_eq_false c3
  clear c3
  obtain rfl := Option.some.inj H
  go_enter Try.func43, Try.ntmps43
  go_wp2_with (first | ((with_reducible refine gate_dst (N := 2) rfl ?_); refine bxe_ 2 24 #[.int .i64 B4, .int .i64 B9, .int .i64 Ba, .int .i64 Bb, .int .i64 Bc, .int .i64 Bd, .int .i64 Be, .int .i64 Bf, .int .i64 Bg, .int .i64 Bh, .slice B2 B0.length B3] ?_; intro Bi hg w8 hbox hb; have B1 := am_ (hbox); have B7 := gwk_ HB hg; have B8 := B7; replace HB := bst_ HB hb; clear hb hbox hg))
  go_ret
  exact ⟨by first | rfl | (simp [*] <;> rfl), by repeat (first | (with_reducible first | exact HB.out | apply ba_ | apply bn_ | apply bd_ | refine bs_ ?_ B8.out) | exact HB.out)⟩
end Go.Proofs.Ythdoghhmooodjaa.Gn
namespace Go.Proofs.Ythdoghhmooodjaa.Gn
open Go.RowKit Go.Proofs.YthdoghhmooodjaaW.PrintWords Go.Proofs.YthdoghhmooodjaaW.PrintLast Go.Proofs.YthdoghhmooodjaaW.PrintMore
attribute [local go_sem] max2_int min2_int max_two min_two max_three min_three max_four min_four   -- for this text's walks alone
set_option linter.unusedVariables false
set_option linter.unusedSimpArgs false
def r14_In.l0 : Nat → List Int → Int → Int → Option (Bool)
 | 0, _, _, _ => none
 | k + 1, x0, x1, x5 => if x5 < (x0.length : Int) then (if 0 ≤ x5 then (if (rd x0 x5) = x1 then (some true) else (r14_In.l0 k x0 x1 (wrap64 (x5 + 1)))) else (none)) else (some false)
def r14_In.f (k : Nat) (l0 : List Int) (a1 : Int) : Option (Bool) := r14_In.l0 k l0 a1 0
set_option maxHeartbeats 8000000 in
set_option maxRecDepth 100000 in
theorem r14_In.calls (k : Nat) (A0 : Option Addr) (c0 : Nat) (l0 : List Int) (a1 : Int) (r : Bool) (w : World) (B9 : Kd.C (Kd.int .i64) w A0 l0.length l0) (Ba : l0.length ≤ c0) (h : r14_In.f k l0 a1 = some r) :
  Calls Try.prog 44 #[.slice A0 l0.length c0, .int .i64 a1] w fun e w' => e = .returned (.bool r) ∧ Drawn0 w w' := by
 have Bb := am_ B9
 have Be := am_ Ba
 clear B9 Ba
 have H : (r14_In.l0 k l0 a1 0) = some r := h
 clear h
 have H' := am_ H
 clear H
 go_enter Try.func44, Try.ntmps44
 go_wp2
 go_loopg [5] k (fun kq v5 w' => ∃ (B0 : Int), v5 = .int .i64 B0 ∧ Aside0 (r14_In.l0 kq l0 a1 B0 = some r) ∧ Aside0 (kq ≤ k) ∧ Drawn0 w w')
 case atStart => exact ⟨(0), (by first | rfl | (simp; done) | (simp [*]; done)), H', ⟨Nat.le_refl _⟩, by repeat (first | exact Drawn0.refl _ | apply Drawn0.step)⟩
 case round =>
  clear H'
  try clear p2
  obtain ⟨B0, rfl, HA, Bc, ⟨m1, rfl⟩⟩ := hrel
  cases gk with
  | zero => exact absurd HA.out (by simp [r14_In.l0])
  | succ k1 =>
   have H := HA.out
   clear HA
   simp only [r14_In.l0] at H
   by_cases c3 : B0 < (l0.length : Int)
   ·rw [if_pos c3] at H
    have B6 : decide (B0 < (l0.length : Int)) = true := decide_eq_true c3
    clear c3
    by_cases c4 : 0 ≤ B0
    ·rw [if_pos c4] at H
     have Bd : decide (0 ≤ B0) = true := decide_eq_true c4
     clear c4
     by_cases c5 : (rd l0 B0) = a1
     ·rw [if_pos c5] at H
      have B7 : ((rd l0 B0) == a1) = true := beq_iff_eq.mpr c5
      have B8 : ((rd l0 B0) != a1) = false := bne_eq_false_iff_eq.mpr c5
      clear c5
      obtain rfl := Option.some.inj H
      have B1 : 0 ≤ (B0 : Int) := of_decide_eq_true (by first | (with_reducible assumption) | assumption)
      have B2 : B0 < (l0.length : Int) := of_decide_eq_true (by first | (with_reducible assumption) | assumption)
      obtain ⟨B5, B4, B3⟩ := Kd.at_int Bb.out B0 B1 B2
      cases B4
      replace B1 := eq_true B1
      replace B2 := eq_true B2
      go_wp2
      go_ret
      exact ⟨by first | rfl | (simp; done) | (simp [*]; done), by repeat (first | exact Drawn0.refl _ | apply Drawn0.step)⟩
     ·rw [if_neg c5] at H
      have B7 : ((rd l0 B0) == a1) = false := beq_eq_false_iff_ne.mpr c5
      have B8 : ((rd l0 B0) != a1) = true := bne_iff_ne.mpr c5
      have H' := am_ H
      clear H
      have B1 : 0 ≤ (B0 : Int) := of_decide_eq_true (by first | (with_reducible assumption) | assumption)
      have B2 : B0 < (l0.length : Int) := of_decide_eq_true (by first | (with_reducible assumption) | assumption)
      obtain ⟨B5, B4, B3⟩ := Kd.at_int Bb.out B0 B1 B2
      cases B4
      replace B1 := eq_true B1
      replace B2 := eq_true B2
      go_wp2
      go_roundg k1
      case measure => have := Bc.out; omega
      case rel => exact ⟨(wrap64 (B0 + 1)), (by first | rfl | (simp; done) | (simp [*]; done)), H', ⟨by have := Bc.out; omega⟩, by repeat (first | exact Drawn0.refl _ | apply Drawn0.step)⟩
    ·rw [if_neg c4] at H
     exact absurd H (by simp)
   ·rw [if_neg c3] at H
    have B6 : decide (B0 < (l0.length : Int)) = false := decide_eq_false c3
    clear c3
    obtain rfl := Option.some.inj H
    go_wp2
    go_ret
    exact ⟨by first | rfl | (simp; done) | (simp [*]; done), by repeat (first | exact Drawn0.refl _ | apply Drawn0.step)⟩
end Go.Proofs.Ythdoghhmooodjaa.Gn
