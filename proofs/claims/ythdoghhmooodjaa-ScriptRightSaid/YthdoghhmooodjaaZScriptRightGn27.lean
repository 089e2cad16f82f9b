import Derived.Test.YthdoghhmooodjaaZScriptRightGn0
import Derived.Test.YthdoghhmooodjaaZScriptRightGn1
import Derived.Test.YthdoghhmooodjaaZScriptRightGn25
import Derived.Test.YthdoghhmooodjaaZScriptRightGn26
namespace Go.Proofs.Ythdoghhmooodjaa.Gn
open Go.RowKit Go.Proofs.YthdoghhmooodjaaW.PrintWords Go.Proofs.YthdoghhmooodjaaW.PrintLast Go.Proofs.YthdoghhmooodjaaW.PrintMore
attribute [local go_sem] max2_int min2_int max_two min_two max_three min_three max_four min_four   -- for this text's walks alone
set_option linter.unusedVariables false
set_option linter.unusedSimpArgs false
def r04_Right.f (k : Nat) (a0_0 a0_1 a0_2 a0_3 a0_4 a0_5 a0_6 a0_7 a0_8 a0_9 : Int) (l0_10 : List Int) : Option (Int) := (r03_Plain.f k a0_0 a0_1 a0_2 a0_3 a0_4 a0_5 a0_6 a0_7 a0_8 a0_9 l0_10).bind fun t402 => (if t402 = 0 then ((r04_Guard.f k a0_0 a0_1 a0_2 a0_3 a0_4 a0_5 a0_6 a0_7 a0_8 a0_9 l0_10).bind fun t404 => ((r04_Middle.f k a0_0 a0_1 a0_2 a0_3 a0_4 a0_5 a0_6 a0_7 a0_8 a0_9 l0_10 (wrap64 ((l0_10.length : Int) - 1))).bind fun t405 => (if a0_7 ≤ (wrap64 (2 * t404)) then (some 8) else (if (wrap64 ((wrap64 (t405 + (wrap64 (a0_2 * a0_4)))) + t404)) > (wrap64 ((wrap64 (a0_3 - 1)) * (wrap64 (a0_4 - a0_5)))) then (some 8) else (if (wrap64 (a0_3 * (wrap64 (a0_4 + a0_5)))) ≥ 32768 then (some 8) else (some 0)))))) else ((r03_Plain.f k a0_0 a0_1 a0_2 a0_3 a0_4 a0_5 a0_6 a0_7 a0_8 a0_9 l0_10).bind fun t403 => (some t403)))
def r04_Right.T4 : Bool × List (List Nat × List Nat) := (true, [([], []), ([], []), ([1], [1]), ([2], [2]), ([3], [3]), ([0, 4], [0, 4]), ([], []), ([6], [6]), ([], []), ([8], [8]), ([7, 9], [7, 9]), ([5, 10], [5, 10]), ([], []), ([11, 12], [11, 12]), ([13, 5, 0, 1, 2, 3, 4, 5, 6, 7, 8, 9, 10, 11, 12, 13], [13])])
def r04_Right.B4 : List Nat := [0, 0, 2, 6, 14, 31, 0, 64, 0, 256, 960, 2047, 0, 8191, 16383]
theorem r04_Right.tab4 : rtab .any (opsOf Try.f42 4) = r04_Right.T4 := by kernel_rfl
theorem r04_Right.bits4 : waitsOk r04_Right.T4.2 r04_Right.B4 = true := by kernel_rfl
set_option maxHeartbeats 8000000 in
set_option maxRecDepth 100000 in
theorem r04_Right.calls (k : Nat) (a0_0 a0_1 a0_2 a0_3 a0_4 a0_5 a0_6 a0_7 a0_8 a0_9 : Int) (A0_10 : Option Addr) (c0_10 : Nat) (l0_10 : List Int) (r : Int) (w : World) (hr0_10 : Kd.C (Kd.int .i64) w A0_10 l0_10.length l0_10) (hc0_10 : l0_10.length ≤ c0_10) (h : r04_Right.f k a0_0 a0_1 a0_2 a0_3 a0_4 a0_5 a0_6 a0_7 a0_8 a0_9 l0_10 = some r) :
  Calls Try.prog 42 #[.agg #[.int .i64 a0_0, .int .i64 a0_1, .int .i64 a0_2, .int .i64 a0_3, .int .i64 a0_4, .int .i64 a0_5, .int .i64 a0_6, .int .i64 a0_7, .int .i64 a0_8, .int .i64 a0_9, .slice A0_10 l0_10.length c0_10]] w fun e w' => e = .returned (.int .i64 r) ∧ Below w.heap.size w w' := by
 have hu24 := Try.underlying24
 have HR0_10 := am_ hr0_10
 have HC0_10 := am_ hc0_10
 clear hr0_10 hc0_10
 have HB := am_ (Below.refl w.heap.size w)
 have H := h
 unfold r04_Right.f at H
 clear h
 obtain ⟨t402, A2, H⟩ := bes_ H
 try dsimp only at H
 by_cases c3 : t402 = 0
 ·rw [if_pos c3] at H
  have c3b0 : (t402 == 0) = true := beq_iff_eq.mpr c3
  have c3b1 : (t402 != 0) = false := bne_eq_false_iff_eq.mpr c3
  clear c3
  obtain ⟨t404, A4, H⟩ := bes_ H
  try dsimp only at H
  obtain ⟨t405, A5, H⟩ := bes_ H
  try dsimp only at H
  by_cases c6 : a0_7 ≤ (wrap64 (2 * t404))
  ·rw [if_pos c6] at H
   have c6b0 : decide (a0_7 ≤ (wrap64 (2 * t404))) = true := decide_eq_true c6
   clear c6
   obtain rfl := Option.some.inj H
   go_enter Try.func42, Try.ntmps42
   try go_wp2_with (first | ((with_reducible refine gate_dst (N := 1) rfl ?_); refine bxe_ 1 24 #[.int .i64 a0_0, .int .i64 a0_1, .int .i64 a0_2, .int .i64 a0_3, .int .i64 a0_4, .int .i64 a0_5, .int .i64 a0_6, .int .i64 a0_7, .int .i64 a0_8, .int .i64 a0_9, .slice A0_10 l0_10.length c0_10] ?_; intro gb401 hg w7 hbox hb; have BK401 := am_ (hbox); have GW401 := gwk_ HB hg; have GE401 := GW401; replace HB := bst_ HB hb; clear hb hbox hg; have hcz8 := cells_11 BK401.out; have hfz8 := frozen_11 BK401.out) | ((with_reducible refine gate_callee (f := 56) rfl ?_); refine gom_ (some 6) Try.func56 (r03_Plain.calls k a0_0 a0_1 a0_2 a0_3 a0_4 a0_5 a0_6 a0_7 a0_8 a0_9 _ _ l0_10 _ _ (Kd.C_below HR0_10.out HB.out) HC0_10.out A2.out) ?_; rintro e w9 ⟨rfl, hb⟩; refine ⟨_, rfl, ?_⟩; replace BK401 := bkb_ BK401 hb; replace HB := bst_ HB hb; (try clear hb); have hcz10 := cells_11 BK401.out; have hfz10 := frozen_11 BK401.out) | ((with_reducible refine gate_callee (f := 75) rfl ?_); refine gom_ (some 11) Try.func75 (r04_Guard.calls k a0_0 a0_1 a0_2 a0_3 a0_4 a0_5 a0_6 a0_7 a0_8 a0_9 _ _ l0_10 _ _ (Kd.C_below HR0_10.out HB.out) HC0_10.out A4.out) ?_; rintro e w11 ⟨rfl, hb⟩; refine ⟨_, rfl, ?_⟩; replace BK401 := bkb_ BK401 hb; replace HB := bst_ HB hb; (try clear hb)))
   replace BK401 := am_ (blk_drew BK401.out)
   replace HB := am_ (below_drew1 HB.out)
   refine start_ (n := 15) (S := fun w' => ce_ w' gb401 0 (.int .i64 a0_0) ∧ ce_ w' gb401 1 (.int .i64 a0_1) ∧ ce_ w' gb401 2 (.int .i64 a0_2) ∧ ce_ w' gb401 3 (.int .i64 a0_3) ∧ ce_ w' gb401 4 (.int .i64 a0_4) ∧ ce_ w' gb401 5 (.int .i64 a0_5) ∧ ce_ w' gb401 6 (.int .i64 a0_6) ∧ ce_ w' gb401 7 (.int .i64 a0_7) ∧ ce_ w' gb401 8 (.int .i64 a0_8) ∧ ce_ w' gb401 9 (.int .i64 a0_9) ∧ ce_ w' gb401 10 (.slice A0_10 l0_10.length c0_10)) (ds := []) #[false, false, false, false, false, false, false, false, false, false, false, false, false, false, false] (by kernel_rfl) rfl rfl ⟨(blk_cell BK401.out 0).trans rfl, (blk_cell BK401.out 1).trans rfl, (blk_cell BK401.out 2).trans rfl, (blk_cell BK401.out 3).trans rfl, (blk_cell BK401.out 4).trans rfl, (blk_cell BK401.out 5).trans rfl, (blk_cell BK401.out 6).trans rfl, (blk_cell BK401.out 7).trans rfl, (blk_cell BK401.out 8).trans rfl, (blk_cell BK401.out 9).trans rfl, (blk_cell BK401.out 10).trans rfl⟩ (fun hHeld => ?_); refine with_tabW r04_Right.tab4 r04_Right.bits4 (fun HT_ HW_ => ?_)
   generalize w11.drew = w12 at BK401 HB hHeld ⊢
   refine pur_ 1 (some 13) rfl rfl (any_of HT_.out (by kernel_rfl)) ?_
   refine pur_ 6 (some 18) rfl rfl (any_of HT_.out (by kernel_rfl)) ?_
   refine pur_ 8 (some 20) rfl rfl (any_of HT_.out (by kernel_rfl)) ?_
   refine pur_ 12 (some 24) rfl rfl (any_of HT_.out (by kernel_rfl)) ?_
   refine tak_ 0 (some 12) rfl rfl (take_ofW HT_.out HW_.out (by kernel_rfl)) hHeld ?_ (by rintro w' ⟨s0, s1, s2, s3, s4, s5, s6, s7, s8, s9, s10⟩; go_simp; with_reducible rfl)
   refine tak_ 2 (some 14) rfl rfl (take_ofW HT_.out HW_.out (by kernel_rfl)) hHeld ?_ (by rintro w' ⟨s0, s1, s2, s3, s4, s5, s6, s7, s8, s9, s10⟩; go_simp; with_reducible rfl)
   refine pur_ 3 (some 15) rfl rfl (any_of HT_.out (by kernel_rfl)) ?_
   refine pur_ 4 (some 16) rfl rfl (any_of HT_.out (by kernel_rfl)) ?_
   refine tak_ 7 (some 19) rfl rfl (take_ofW HT_.out HW_.out (by kernel_rfl)) hHeld ?_ (by rintro w' ⟨s0, s1, s2, s3, s4, s5, s6, s7, s8, s9, s10⟩; go_simp; with_reducible rfl)
   refine tak_ 9 (some 21) rfl rfl (take_ofW HT_.out HW_.out (by kernel_rfl)) hHeld ?_ (by rintro w' ⟨s0, s1, s2, s3, s4, s5, s6, s7, s8, s9, s10⟩; go_simp; with_reducible rfl)
   refine pur_ 10 (some 22) rfl rfl (any_of HT_.out (by kernel_rfl)) ?_
   refine oon_ 5 (some 17) rfl rfl (one_of HT_.out (by kernel_rfl)) (fun K hK => ?_)
   refine gos_ Try.func76 (r04_Middle.calls k a0_0 a0_1 a0_2 a0_3 a0_4 a0_5 a0_6 a0_7 a0_8 a0_9 _ _ l0_10 (wrap64 ((l0_10.length : Int) - 1)) _ _ (Kd.C_below HR0_10.out HB.out) HC0_10.out A5.out) ?_
   rintro e w13 ⟨rfl, hb⟩
   refine ⟨_, rfl, ?_⟩
   replace BK401 := bkb_ BK401 hb
   replace HB := bst_ HB hb
   (try clear hb)
   (try clear hb2)
   (try clear hk)
   (try clear hi)
   refine hK.out _ _ (cells_11 BK401.out) (fun hHeld => ?_)
   clear hK K
   refine nor_ 17 ?_
   refine pur_ 11 (some 23) rfl rfl (any_of HT_.out (by kernel_rfl)) ?_
   refine pur_ 13 (some 25) rfl rfl (any_of HT_.out (by kernel_rfl)) ?_
   refine pur_ 14 (some 4) rfl rfl (any_of HT_.out (by kernel_rfl)) ?_
   refine done_ (done_of HT_.out (by kernel_rfl)) ?_
   have hcz14 := cells_11 BK401.out
   have hfz14 := frozen_11 BK401.out
   try go_wp2
   go_ret
   exact ⟨by first | rfl | (simp [*] <;> rfl), by repeat (first | (with_reducible first | exact HB.out | apply ba_ | apply bn_ | apply bd_ | refine bs_ ?_ GE401.out) | exact HB.out)⟩
  ·rw [if_neg c6] at H
   have c6b0 : decide (a0_7 ≤ (wrap64 (2 * t404))) = false := decide_eq_false c6
   clear c6
   by_cases c15 : (wrap64 ((wrap64 (t405 + (wrap64 (a0_2 * a0_4)))) + t404)) > (wrap64 ((wrap64 (a0_3 - 1)) * (wrap64 (a0_4 - a0_5))))
   ·rw [if_pos c15] at H
    have c15b0 : decide ((wrap64 ((wrap64 (a0_3 - 1)) * (wrap64 (a0_4 - a0_5)))) < (wrap64 ((wrap64 (t405 + (wrap64 (a0_2 * a0_4)))) + t404))) = true := decide_eq_true c15
    clear c15
    obtain rfl := Option.some.inj H
    go_enter Try.func42, Try.ntmps42
    try go_wp2_with (first | ((with_reducible refine gate_dst (N := 1) rfl ?_); refine bxe_ 1 24 #[.int .i64 a0_0, .int .i64 a0_1, .int .i64 a0_2, .int .i64 a0_3, .int .i64 a0_4, .int .i64 a0_5, .int .i64 a0_6, .int .i64 a0_7, .int .i64 a0_8, .int .i64 a0_9, .slice A0_10 l0_10.length c0_10] ?_; intro gb401 hg w16 hbox hb; have BK401 := am_ (hbox); have GW401 := gwk_ HB hg; have GE401 := GW401; replace HB := bst_ HB hb; clear hb hbox hg; have hcz17 := cells_11 BK401.out; have hfz17 := frozen_11 BK401.out) | ((with_reducible refine gate_callee (f := 56) rfl ?_); refine gom_ (some 6) Try.func56 (r03_Plain.calls k a0_0 a0_1 a0_2 a0_3 a0_4 a0_5 a0_6 a0_7 a0_8 a0_9 _ _ l0_10 _ _ (Kd.C_below HR0_10.out HB.out) HC0_10.out A2.out) ?_; rintro e w18 ⟨rfl, hb⟩; refine ⟨_, rfl, ?_⟩; replace BK401 := bkb_ BK401 hb; replace HB := bst_ HB hb; (try clear hb); have hcz19 := cells_11 BK401.out; have hfz19 := frozen_11 BK401.out) | ((with_reducible refine gate_callee (f := 75) rfl ?_); refine gom_ (some 11) Try.func75 (r04_Guard.calls k a0_0 a0_1 a0_2 a0_3 a0_4 a0_5 a0_6 a0_7 a0_8 a0_9 _ _ l0_10 _ _ (Kd.C_below HR0_10.out HB.out) HC0_10.out A4.out) ?_; rintro e w20 ⟨rfl, hb⟩; refine ⟨_, rfl, ?_⟩; replace BK401 := bkb_ BK401 hb; replace HB := bst_ HB hb; (try clear hb)))
    replace BK401 := am_ (blk_drew BK401.out)
    replace HB := am_ (below_drew1 HB.out)
    refine start_ (n := 15) (S := fun w' => ce_ w' gb401 0 (.int .i64 a0_0) ∧ ce_ w' gb401 1 (.int .i64 a0_1) ∧ ce_ w' gb401 2 (.int .i64 a0_2) ∧ ce_ w' gb401 3 (.int .i64 a0_3) ∧ ce_ w' gb401 4 (.int .i64 a0_4) ∧ ce_ w' gb401 5 (.int .i64 a0_5) ∧ ce_ w' gb401 6 (.int .i64 a0_6) ∧ ce_ w' gb401 7 (.int .i64 a0_7) ∧ ce_ w' gb401 8 (.int .i64 a0_8) ∧ ce_ w' gb401 9 (.int .i64 a0_9) ∧ ce_ w' gb401 10 (.slice A0_10 l0_10.length c0_10)) (ds := []) #[false, false, false, false, false, false, false, false, false, false, false, false, false, false, false] (by kernel_rfl) rfl rfl ⟨(blk_cell BK401.out 0).trans rfl, (blk_cell BK401.out 1).trans rfl, (blk_cell BK401.out 2).trans rfl, (blk_cell BK401.out 3).trans rfl, (blk_cell BK401.out 4).trans rfl, (blk_cell BK401.out 5).trans rfl, (blk_cell BK401.out 6).trans rfl, (blk_cell BK401.out 7).trans rfl, (blk_cell BK401.out 8).trans rfl, (blk_cell BK401.out 9).trans rfl, (blk_cell BK401.out 10).trans rfl⟩ (fun hHeld => ?_); refine with_tabW r04_Right.tab4 r04_Right.bits4 (fun HT_ HW_ => ?_)
    generalize w20.drew = w21 at BK401 HB hHeld ⊢
    refine pur_ 1 (some 13) rfl rfl (any_of HT_.out (by kernel_rfl)) ?_
    refine pur_ 6 (some 18) rfl rfl (any_of HT_.out (by kernel_rfl)) ?_
    refine pur_ 8 (some 20) rfl rfl (any_of HT_.out (by kernel_rfl)) ?_
    refine pur_ 12 (some 24) rfl rfl (any_of HT_.out (by kernel_rfl)) ?_
    refine tak_ 0 (some 12) rfl rfl (take_ofW HT_.out HW_.out (by kernel_rfl)) hHeld ?_ (by rintro w' ⟨s0, s1, s2, s3, s4, s5, s6, s7, s8, s9, s10⟩; go_simp; with_reducible rfl)
    refine tak_ 2 (some 14) rfl rfl (take_ofW HT_.out HW_.out (by kernel_rfl)) hHeld ?_ (by rintro w' ⟨s0, s1, s2, s3, s4, s5, s6, s7, s8, s9, s10⟩; go_simp; with_reducible rfl)
    refine pur_ 3 (some 15) rfl rfl (any_of HT_.out (by kernel_rfl)) ?_
    refine pur_ 4 (some 16) rfl rfl (any_of HT_.out (by kernel_rfl)) ?_
    refine tak_ 7 (some 19) rfl rfl (take_ofW HT_.out HW_.out (by kernel_rfl)) hHeld ?_ (by rintro w' ⟨s0, s1, s2, s3, s4, s5, s6, s7, s8, s9, s10⟩; go_simp; with_reducible rfl)
    refine tak_ 9 (some 21) rfl rfl (take_ofW HT_.out HW_.out (by kernel_rfl)) hHeld ?_ (by rintro w' ⟨s0, s1, s2, s3, s4, s5, s6, s7, s8, s9, s10⟩; go_simp; with_reducible rfl)
    refine pur_ 10 (some 22) rfl rfl (any_of HT_.out (by kernel_rfl)) ?_
    refine oon_ 5 (some 17) rfl rfl (one_of HT_.out (by kernel_rfl)) (fun K hK => ?_)
    refine gos_ Try.func76 (r04_Middle.calls k a0_0 a0_1 a0_2 a0_3 a0_4 a0_5 a0_6 a0_7 a0_8 a0_9 _ _ l0_10 (wrap64 ((l0_10.length : Int) - 1)) _ _ (Kd.C_below HR0_10.out HB.out) HC0_10.out A5.out) ?_
    rintro e w22 ⟨rfl, hb⟩
    refine ⟨_, rfl, ?_⟩
    replace BK401 := bkb_ BK401 hb
    replace HB := bst_ HB hb
    (try clear hb)
    (try clear hb2)
    (try clear hk)
    (try clear hi)
    refine hK.out _ _ (cells_11 BK401.out) (fun hHeld => ?_)
    clear hK K
    refine nor_ 17 ?_
    refine pur_ 11 (some 23) rfl rfl (any_of HT_.out (by kernel_rfl)) ?_
    refine pur_ 13 (some 25) rfl rfl (any_of HT_.out (by kernel_rfl)) ?_
    refine pur_ 14 (some 4) rfl rfl (any_of HT_.out (by kernel_rfl)) ?_
    refine done_ (done_of HT_.out (by kernel_rfl)) ?_
    have hcz23 := cells_11 BK401.out
    have hfz23 := frozen_11 BK401.out
    try go_wp2
    go_ret
    exact ⟨by first | rfl | (simp [*] <;> rfl), by repeat (first | (with_reducible first | exact HB.out | apply ba_ | apply bn_ | apply bd_ | refine bs_ ?_ GE401.out) | exact HB.out)⟩
   ·rw [if_neg c15] at H
    have c15b0 : decide ((wrap64 ((wrap64 (a0_3 - 1)) * (wrap64 (a0_4 - a0_5)))) < (wrap64 ((wrap64 (t405 + (wrap64 (a0_2 * a0_4)))) + t404))) = false := decide_eq_false c15
    clear c15
    by_cases c24 : (wrap64 (a0_3 * (wrap64 (a0_4 + a0_5)))) ≥ 32768
    rw [if_pos c24] at H
    have c24b0 : decide (32768 ≤ (wrap64 (a0_3 * (wrap64 (a0_4 + a0_5))))) = true := decide_eq_true c24
    rotate_left
    rw [if_neg c24] at H
    have c24b0 : decide (32768 ≤ (wrap64 (a0_3 * (wrap64 (a0_4 + a0_5))))) = false := decide_eq_false c24
    rotate_left
    all_goals
     clear c24
     obtain rfl := Option.some.inj H
     go_enter Try.func42, Try.ntmps42
     try go_wp2_with (first | ((with_reducible refine gate_dst (N := 1) rfl ?_); refine bxe_ 1 24 #[.int .i64 a0_0, .int .i64 a0_1, .int .i64 a0_2, .int .i64 a0_3, .int .i64 a0_4, .int .i64 a0_5, .int .i64 a0_6, .int .i64 a0_7, .int .i64 a0_8, .int .i64 a0_9, .slice A0_10 l0_10.length c0_10] ?_; intro gb401 hg w25 hbox hb; have BK401 := am_ (hbox); have GW401 := gwk_ HB hg; have GE401 := GW401; replace HB := bst_ HB hb; clear hb hbox hg; have hcz26 := cells_11 BK401.out; have hfz26 := frozen_11 BK401.out) | ((with_reducible refine gate_callee (f := 56) rfl ?_); refine gom_ (some 6) Try.func56 (r03_Plain.calls k a0_0 a0_1 a0_2 a0_3 a0_4 a0_5 a0_6 a0_7 a0_8 a0_9 _ _ l0_10 _ _ (Kd.C_below HR0_10.out HB.out) HC0_10.out A2.out) ?_; rintro e w27 ⟨rfl, hb⟩; refine ⟨_, rfl, ?_⟩; replace BK401 := bkb_ BK401 hb; replace HB := bst_ HB hb; (try clear hb); have hcz28 := cells_11 BK401.out; have hfz28 := frozen_11 BK401.out) | ((with_reducible refine gate_callee (f := 75) rfl ?_); refine gom_ (some 11) Try.func75 (r04_Guard.calls k a0_0 a0_1 a0_2 a0_3 a0_4 a0_5 a0_6 a0_7 a0_8 a0_9 _ _ l0_10 _ _ (Kd.C_below HR0_10.out HB.out) HC0_10.out A4.out) ?_; rintro e w29 ⟨rfl, hb⟩; refine ⟨_, rfl, ?_⟩; replace BK401 := bkb_ BK401 hb; replace HB := bst_ HB hb; (try clear hb)))
     replace BK401 := am_ (blk_drew BK401.out)
     replace HB := am_ (below_drew1 HB.out)
     refine start_ (n := 15) (S := fun w' => ce_ w' gb401 0 (.int .i64 a0_0) ∧ ce_ w' gb401 1 (.int .i64 a0_1) ∧ ce_ w' gb401 2 (.int .i64 a0_2) ∧ ce_ w' gb401 3 (.int .i64 a0_3) ∧ ce_ w' gb401 4 (.int .i64 a0_4) ∧ ce_ w' gb401 5 (.int .i64 a0_5) ∧ ce_ w' gb401 6 (.int .i64 a0_6) ∧ ce_ w' gb401 7 (.int .i64 a0_7) ∧ ce_ w' gb401 8 (.int .i64 a0_8) ∧ ce_ w' gb401 9 (.int .i64 a0_9) ∧ ce_ w' gb401 10 (.slice A0_10 l0_10.length c0_10)) (ds := []) #[false, false, false, false, false, false, false, false, false, false, false, false, false, false, false] (by kernel_rfl) rfl rfl ⟨(blk_cell BK401.out 0).trans rfl, (blk_cell BK401.out 1).trans rfl, (blk_cell BK401.out 2).trans rfl, (blk_cell BK401.out 3).trans rfl, (blk_cell BK401.out 4).trans rfl, (blk_cell BK401.out 5).trans rfl, (blk_cell BK401.out 6).trans rfl, (blk_cell BK401.out 7).trans rfl, (blk_cell BK401.out 8).trans rfl, (blk_cell BK401.out 9).trans rfl, (blk_cell BK401.out 10).trans rfl⟩ (fun hHeld => ?_); refine with_tabW r04_Right.tab4 r04_Right.bits4 (fun HT_ HW_ => ?_)
     generalize w29.drew = w30 at BK401 HB hHeld ⊢
     refine pur_ 1 (some 13) rfl rfl (any_of HT_.out (by kernel_rfl)) ?_
     refine pur_ 6 (some 18) rfl rfl (any_of HT_.out (by kernel_rfl)) ?_
     refine pur_ 8 (some 20) rfl rfl (any_of HT_.out (by kernel_rfl)) ?_
     refine pur_ 12 (some 24) rfl rfl (any_of HT_.out (by kernel_rfl)) ?_
     refine tak_ 0 (some 12) rfl rfl (take_ofW HT_.out HW_.out (by kernel_rfl)) hHeld ?_ (by rintro w' ⟨s0, s1, s2, s3, s4, s5, s6, s7, s8, s9, s10⟩; go_simp; with_reducible rfl)
     refine tak_ 2 (some 14) rfl rfl (take_ofW HT_.out HW_.out (by kernel_rfl)) hHeld ?_ (by rintro w' ⟨s0, s1, s2, s3, s4, s5, s6, s7, s8, s9, s10⟩; go_simp; with_reducible rfl)
     refine pur_ 3 (some 15) rfl rfl (any_of HT_.out (by kernel_rfl)) ?_
     refine pur_ 4 (some 16) rfl rfl (any_of HT_.out (by kernel_rfl)) ?_
     refine tak_ 7 (some 19) rfl rfl (take_ofW HT_.out HW_.out (by kernel_rfl)) hHeld ?_ (by rintro w' ⟨s0, s1, s2, s3, s4, s5, s6, s7, s8, s9, s10⟩; go_simp; with_reducible rfl)
     refine tak_ 9 (some 21) rfl rfl (take_ofW HT_.out HW_.out (by kernel_rfl)) hHeld ?_ (by rintro w' ⟨s0, s1, s2, s3, s4, s5, s6, s7, s8, s9, s10⟩; go_simp; with_reducible rfl)
     refine pur_ 10 (some 22) rfl rfl (any_of HT_.out (by kernel_rfl)) ?_
     refine oon_ 5 (some 17) rfl rfl (one_of HT_.out (by kernel_rfl)) (fun K hK => ?_)
     refine gos_ Try.func76 (r04_Middle.calls k a0_0 a0_1 a0_2 a0_3 a0_4 a0_5 a0_6 a0_7 a0_8 a0_9 _ _ l0_10 (wrap64 ((l0_10.length : Int) - 1)) _ _ (Kd.C_below HR0_10.out HB.out) HC0_10.out A5.out) ?_
     rintro e w31 ⟨rfl, hb⟩
     refine ⟨_, rfl, ?_⟩
     replace BK401 := bkb_ BK401 hb
     replace HB := bst_ HB hb
     (try clear hb)
     (try clear hb2)
     (try clear hk)
     (try clear hi)
     refine hK.out _ _ (cells_11 BK401.out) (fun hHeld => ?_)
     clear hK K
     refine nor_ 17 ?_
     refine pur_ 11 (some 23) rfl rfl (any_of HT_.out (by kernel_rfl)) ?_
     refine pur_ 13 (some 25) rfl rfl (any_of HT_.out (by kernel_rfl)) ?_
     refine pur_ 14 (some 4) rfl rfl (any_of HT_.out (by kernel_rfl)) ?_
     refine done_ (done_of HT_.out (by kernel_rfl)) ?_
     have hcz32 := cells_11 BK401.out
     have hfz32 := frozen_11 BK401.out
     try go_wp2
     go_ret
     exact ⟨by first | rfl | (simp [*] <;> rfl), by repeat (first | (with_reducible first | exact HB.out | apply ba_ | apply bn_ | apply bd_ | refine bs_ ?_ GE401.out) | exact HB.out)⟩
 ·rw [if_neg c3] at H
  have c3b0 : (t402 == 0) = false := beq_eq_false_iff_ne.mpr c3
  have c3b1 : (t402 != 0) = true := bne_iff_ne.mpr c3
  replace H := Option.bind_eq_some_iff.mp H
  obtain ⟨t403, A410, H⟩ := H
  replace H : (some t403) = some r := H
  have A41 := am_ A410
  clear A410
  obtain rfl := Option.some.inj H
  go_enter Try.func42, Try.ntmps42
  go_wp2_with (first | ((with_reducible refine gate_dst (N := 1) rfl ?_); refine bxe_ 1 24 #[.int .i64 a0_0, .int .i64 a0_1, .int .i64 a0_2, .int .i64 a0_3, .int .i64 a0_4, .int .i64 a0_5, .int .i64 a0_6, .int .i64 a0_7, .int .i64 a0_8, .int .i64 a0_9, .slice A0_10 l0_10.length c0_10] ?_; intro gb401 hg w42 hbox hb; have BK401 := am_ (hbox); have GW401 := gwk_ HB hg; have GE401 := GW401; replace HB := bst_ HB hb; clear hb hbox hg; have hcz43 := cells_11 BK401.out; have hfz43 := frozen_11 BK401.out) | ((with_reducible refine gate_callee (f := 56) rfl ?_); refine gom_ (some 6) Try.func56 (r03_Plain.calls k a0_0 a0_1 a0_2 a0_3 a0_4 a0_5 a0_6 a0_7 a0_8 a0_9 _ _ l0_10 _ _ (Kd.C_below HR0_10.out HB.out) HC0_10.out A2.out) ?_; rintro e w44 ⟨rfl, hb⟩; refine ⟨_, rfl, ?_⟩; replace BK401 := bkb_ BK401 hb; replace HB := bst_ HB hb; (try clear hb); have hcz45 := cells_11 BK401.out; have hfz45 := frozen_11 BK401.out) | ((with_reducible refine gate_callee (f := 56) rfl ?_); refine gom_ (some 9) Try.func56 (r03_Plain.calls k a0_0 a0_1 a0_2 a0_3 a0_4 a0_5 a0_6 a0_7 a0_8 a0_9 _ _ l0_10 _ _ (Kd.C_below HR0_10.out HB.out) HC0_10.out A41.out) ?_; rintro e w46 ⟨rfl, hb⟩; refine ⟨_, rfl, ?_⟩; replace BK401 := bkb_ BK401 hb; replace HB := bst_ HB hb; (try clear hb)))
  go_ret
  exact ⟨by first | rfl | (simp [*] <;> rfl), by repeat (first | (with_reducible first | exact HB.out | apply ba_ | apply bn_ | apply bd_ | refine bs_ ?_ GE401.out) | exact HB.out)⟩
end Go.Proofs.Ythdoghhmooodjaa.Gn
