import Derived.Test.YthdoghhmooodjaaZScriptRightGn0
import Derived.Test.YthdoghhmooodjaaZScriptRightGn1
import Derived.Test.YthdoghhmooodjaaZScriptRightGn25
namespace Go.Proofs.Ythdoghhmooodjaa.Gn
open Go.RowKit Go.Proofs.YthdoghhmooodjaaW.PrintWords Go.Proofs.YthdoghhmooodjaaW.PrintLast Go.Proofs.YthdoghhmooodjaaW.PrintMore
attribute [local go_sem] max2_int min2_int max_two min_two max_three min_three max_four min_four   -- for this text's walks alone
set_option linter.unusedVariables false
set_option linter.unusedSimpArgs false
def r04_Begin.f (k : Nat) (a0_0 a0_1 a0_2 a0_3 a0_4 a0_5 a0_6 a0_7 a0_8 a0_9 : Int) (l0_10 : List Int) (a1 : Int) : Option (Int) := (r03_Plain.f k a0_0 a0_1 a0_2 a0_3 a0_4 a0_5 a0_6 a0_7 a0_8 a0_9 l0_10).bind fun t402 => (if t402 = 0 then (if a1 < 0 then (some 0) else (if a1 ≥ (l0_10.length : Int) then (some 0) else (some (wrap64 (a0_6 + (wrap64 (a1 * a0_7))))))) else (some 0))
set_option maxHeartbeats 8000000 in
set_option maxRecDepth 100000 in
theorem r04_Begin.calls (k : Nat) (a0_0 a0_1 a0_2 a0_3 a0_4 a0_5 a0_6 a0_7 a0_8 a0_9 : Int) (A0_10 : Option Addr) (c0_10 : Nat) (l0_10 : List Int) (a1 r : Int) (w : World) (hr0_10 : Kd.C (Kd.int .i64) w A0_10 l0_10.length l0_10) (hc0_10 : l0_10.length ≤ c0_10) (h : r04_Begin.f k a0_0 a0_1 a0_2 a0_3 a0_4 a0_5 a0_6 a0_7 a0_8 a0_9 l0_10 a1 = some r) :
  Calls Try.prog 105 #[.agg #[.int .i64 a0_0, .int .i64 a0_1, .int .i64 a0_2, .int .i64 a0_3, .int .i64 a0_4, .int .i64 a0_5, .int .i64 a0_6, .int .i64 a0_7, .int .i64 a0_8, .int .i64 a0_9, .slice A0_10 l0_10.length c0_10], .int .i64 a1] w fun e w' => e = .returned (.int .i64 r) ∧ Below w.heap.size w w' := by
 have hu24 := Try.underlying24
 have HR0_10 := am_ hr0_10
 have HC0_10 := am_ hc0_10
 clear hr0_10 hc0_10
 have HB := am_ (Below.refl w.heap.size w)
 have H := h
 unfold r04_Begin.f at H
 clear h
 obtain ⟨t402, A3, H⟩ := bes_ H
 try dsimp only at H
 by_cases c4 : t402 = 0
 ·rw [if_pos c4] at H
  have c4b0 : (t402 == 0) = true := beq_iff_eq.mpr c4
  have c4b1 : (t402 != 0) = false := bne_eq_false_iff_eq.mpr c4
  clear c4
  by_cases c5 : a1 < 0
  ·rw [if_pos c5] at H
   have c5b0 : decide (a1 < 0) = true := decide_eq_true c5
   clear c5
   obtain rfl := Option.some.inj H
   go_enter Try.func105, Try.ntmps105
   go_wp2_with (first | ((with_reducible refine gate_dst (N := 2) rfl ?_); (try (refine gate_guard (by rfl) ?_; dsimp only)); refine bxe_ 2 24 #[.int .i64 a0_0, .int .i64 a0_1, .int .i64 a0_2, .int .i64 a0_3, .int .i64 a0_4, .int .i64 a0_5, .int .i64 a0_6, .int .i64 a0_7, .int .i64 a0_8, .int .i64 a0_9, .slice A0_10 l0_10.length c0_10] ?_; intro gb401 hg w6 hbox hb; have BK401 := am_ (hbox); have GW401 := gwk_ HB hg; have GE401 := GW401; replace HB := bst_ HB hb; clear hb hbox hg; have hcz7 := cells_11 BK401.out; have hfz7 := frozen_11 BK401.out) | ((with_reducible refine gate_callee (f := 56) rfl ?_); refine gom_ (some 6) Try.func56 (r03_Plain.calls k a0_0 a0_1 a0_2 a0_3 a0_4 a0_5 a0_6 a0_7 a0_8 a0_9 _ _ l0_10 _ _ (Kd.C_below HR0_10.out HB.out) HC0_10.out A3.out) ?_; rintro e w8 ⟨rfl, hb⟩; refine ⟨_, rfl, ?_⟩; replace BK401 := bkb_ BK401 hb; replace HB := bst_ HB hb; (try clear hb)))
   go_ret
   exact ⟨by first | rfl | (simp [*] <;> rfl), by repeat (first | (with_reducible first | exact HB.out | apply ba_ | apply bn_ | apply bd_ | refine bs_ ?_ GE401.out) | exact HB.out)⟩
  ·rw [if_neg c5] at H
   have c5b0 : decide (a1 < 0) = false := decide_eq_false c5
   clear c5
   by_cases c9 : a1 ≥ (l0_10.length : Int)
   rw [if_pos c9] at H
   have c9b0 : decide ((l0_10.length : Int) ≤ a1) = true := decide_eq_true c9
   rotate_left
   rw [if_neg c9] at H
   have c9b0 : decide ((l0_10.length : Int) ≤ a1) = false := decide_eq_false c9
   rotate_left
   all_goals
    clear c9
    obtain rfl := Option.some.inj H
    go_enter Try.func105, Try.ntmps105
    go_wp2_with (first | ((with_reducible refine gate_dst (N := 2) rfl ?_); (try (refine gate_guard (by rfl) ?_; dsimp only)); refine bxe_ 2 24 #[.int .i64 a0_0, .int .i64 a0_1, .int .i64 a0_2, .int .i64 a0_3, .int .i64 a0_4, .int .i64 a0_5, .int .i64 a0_6, .int .i64 a0_7, .int .i64 a0_8, .int .i64 a0_9, .slice A0_10 l0_10.length c0_10] ?_; intro gb401 hg w10 hbox hb; have BK401 := am_ (hbox); have GW401 := gwk_ HB hg; have GE401 := GW401; replace HB := bst_ HB hb; clear hb hbox hg; have hcz11 := cells_11 BK401.out; have hfz11 := frozen_11 BK401.out) | ((with_reducible refine gate_callee (f := 56) rfl ?_); refine gom_ (some 6) Try.func56 (r03_Plain.calls k a0_0 a0_1 a0_2 a0_3 a0_4 a0_5 a0_6 a0_7 a0_8 a0_9 _ _ l0_10 _ _ (Kd.C_below HR0_10.out HB.out) HC0_10.out A3.out) ?_; rintro e w12 ⟨rfl, hb⟩; refine ⟨_, rfl, ?_⟩; replace BK401 := bkb_ BK401 hb; replace HB := bst_ HB hb; (try clear hb); have hcz13 := cells_11 BK401.out; have hfz13 := frozen_11 BK401.out))
    go_ret
    exact ⟨by first | rfl | (simp [*] <;> rfl), by repeat (first | (with_reducible first | exact HB.out | apply ba_ | apply bn_ | apply bd_ | refine bs_ ?_ GE401.out) | exact HB.out)⟩
 ·rw [if_neg c4] at H
  have c4b0 : (t402 == 0) = false := beq_eq_false_iff_ne.mpr c4
  have c4b1 : (t402 != 0) = true := bne_iff_ne.mpr c4
  obtain rfl := Option.some.inj H
  go_enter Try.func105, Try.ntmps105
  go_wp2_with (first | ((with_reducible refine gate_dst (N := 2) rfl ?_); (try (refine gate_guard (by rfl) ?_; dsimp only)); refine bxe_ 2 24 #[.int .i64 a0_0, .int .i64 a0_1, .int .i64 a0_2, .int .i64 a0_3, .int .i64 a0_4, .int .i64 a0_5, .int .i64 a0_6, .int .i64 a0_7, .int .i64 a0_8, .int .i64 a0_9, .slice A0_10 l0_10.length c0_10] ?_; intro gb401 hg w18 hbox hb; have BK401 := am_ (hbox); have GW401 := gwk_ HB hg; have GE401 := GW401; replace HB := bst_ HB hb; clear hb hbox hg; have hcz19 := cells_11 BK401.out; have hfz19 := frozen_11 BK401.out) | ((with_reducible refine gate_callee (f := 56) rfl ?_); refine gom_ (some 6) Try.func56 (r03_Plain.calls k a0_0 a0_1 a0_2 a0_3 a0_4 a0_5 a0_6 a0_7 a0_8 a0_9 _ _ l0_10 _ _ (Kd.C_below HR0_10.out HB.out) HC0_10.out A3.out) ?_; rintro e w20 ⟨rfl, hb⟩; refine ⟨_, rfl, ?_⟩; replace BK401 := bkb_ BK401 hb; replace HB := bst_ HB hb; (try clear hb)))
  go_ret
  exact ⟨by first | rfl | (simp [*] <;> rfl), by repeat (first | (with_reducible first | exact HB.out | apply ba_ | apply bn_ | apply bd_ | refine bs_ ?_ GE401.out) | exact HB.out)⟩
def r04_Middle.f (k : Nat) (a0_0 a0_1 a0_2 a0_3 a0_4 a0_5 a0_6 a0_7 a0_8 a0_9 : Int) (l0_10 : List Int) (a1 : Int) : Option (Int) := (r03_Plain.f k a0_0 a0_1 a0_2 a0_3 a0_4 a0_5 a0_6 a0_7 a0_8 a0_9 l0_10).bind fun t402 => (if t402 = 0 then (if a1 < 0 then (some 0) else (if a1 ≥ (l0_10.length : Int) then (some 0) else ((r04_Begin.f k a0_0 a0_1 a0_2 a0_3 a0_4 a0_5 a0_6 a0_7 a0_8 a0_9 l0_10 a1).bind fun t403 => (some (wrap64 (t403 + (wrap64 (Int.tdiv a0_7 2)))))))) else (some 0))
def r04_Middle.T3 : Bool × List (List Nat × List Nat) := (true, [([], []), ([], []), ([0, 1], [0, 1]), ([], []), ([3], [3]), ([4], [4]), ([2, 5], [2, 5]), ([6, 2, 0, 1, 2, 3, 4, 5, 6], [6])])
def r04_Middle.B3 : List Nat := [0, 0, 3, 0, 8, 24, 63, 127]
theorem r04_Middle.tab3 : rtab .any (opsOf Try.f76 3) = r04_Middle.T3 := by kernel_rfl
theorem r04_Middle.bits3 : waitsOk r04_Middle.T3.2 r04_Middle.B3 = true := by kernel_rfl
set_option maxHeartbeats 8000000 in
set_option maxRecDepth 100000 in
theorem r04_Middle.calls (k : Nat) (a0_0 a0_1 a0_2 a0_3 a0_4 a0_5 a0_6 a0_7 a0_8 a0_9 : Int) (A0_10 : Option Addr) (c0_10 : Nat) (l0_10 : List Int) (a1 r : Int) (w : World) (hr0_10 : Kd.C (Kd.int .i64) w A0_10 l0_10.length l0_10) (hc0_10 : l0_10.length ≤ c0_10) (h : r04_Middle.f k a0_0 a0_1 a0_2 a0_3 a0_4 a0_5 a0_6 a0_7 a0_8 a0_9 l0_10 a1 = some r) :
  Calls Try.prog 76 #[.agg #[.int .i64 a0_0, .int .i64 a0_1, .int .i64 a0_2, .int .i64 a0_3, .int .i64 a0_4, .int .i64 a0_5, .int .i64 a0_6, .int .i64 a0_7, .int .i64 a0_8, .int .i64 a0_9, .slice A0_10 l0_10.length c0_10], .int .i64 a1] w fun e w' => e = .returned (.int .i64 r) ∧ Below w.heap.size w w' := by
 have hu24 := Try.underlying24
 have HR0_10 := am_ hr0_10
 have HC0_10 := am_ hc0_10
 clear hr0_10 hc0_10
 have HB := am_ (Below.refl w.heap.size w)
 have H := h
 unfold r04_Middle.f at H
 clear h
 obtain ⟨t402, A3, H⟩ := bes_ H
 try dsimp only at H
 by_cases c4 : t402 = 0
 ·rw [if_pos c4] at H
  have c4b0 : (t402 == 0) = true := beq_iff_eq.mpr c4
  have c4b1 : (t402 != 0) = false := bne_eq_false_iff_eq.mpr c4
  clear c4
  by_cases c5 : a1 < 0
  ·rw [if_pos c5] at H
   have c5b0 : decide (a1 < 0) = true := decide_eq_true c5
   clear c5
   obtain rfl := Option.some.inj H
   go_enter Try.func76, Try.ntmps76
   go_wp2_with (first | ((with_reducible refine gate_dst (N := 2) rfl ?_); (try (refine gate_guard (by rfl) ?_; dsimp only)); refine bxe_ 2 24 #[.int .i64 a0_0, .int .i64 a0_1, .int .i64 a0_2, .int .i64 a0_3, .int .i64 a0_4, .int .i64 a0_5, .int .i64 a0_6, .int .i64 a0_7, .int .i64 a0_8, .int .i64 a0_9, .slice A0_10 l0_10.length c0_10] ?_; intro gb401 hg w6 hbox hb; have BK401 := am_ (hbox); have GW401 := gwk_ HB hg; have GE401 := GW401; replace HB := bst_ HB hb; clear hb hbox hg; have hcz7 := cells_11 BK401.out; have hfz7 := frozen_11 BK401.out) | ((with_reducible refine gate_callee (f := 56) rfl ?_); refine gom_ (some 6) Try.func56 (r03_Plain.calls k a0_0 a0_1 a0_2 a0_3 a0_4 a0_5 a0_6 a0_7 a0_8 a0_9 _ _ l0_10 _ _ (Kd.C_below HR0_10.out HB.out) HC0_10.out A3.out) ?_; rintro e w8 ⟨rfl, hb⟩; refine ⟨_, rfl, ?_⟩; replace BK401 := bkb_ BK401 hb; replace HB := bst_ HB hb; (try clear hb)))
   go_ret
   exact ⟨by first | rfl | (simp [*] <;> rfl), by repeat (first | (with_reducible first | exact HB.out | apply ba_ | apply bn_ | apply bd_ | refine bs_ ?_ GE401.out) | exact HB.out)⟩
  ·rw [if_neg c5] at H
   have c5b0 : decide (a1 < 0) = false := decide_eq_false c5
   clear c5
   by_cases c9 : a1 ≥ (l0_10.length : Int)
   ·rw [if_pos c9] at H
    have c9b0 : decide ((l0_10.length : Int) ≤ a1) = true := decide_eq_true c9
    clear c9
    obtain rfl := Option.some.inj H
    go_enter Try.func76, Try.ntmps76
    go_wp2_with (first | ((with_reducible refine gate_dst (N := 2) rfl ?_); (try (refine gate_guard (by rfl) ?_; dsimp only)); refine bxe_ 2 24 #[.int .i64 a0_0, .int .i64 a0_1, .int .i64 a0_2, .int .i64 a0_3, .int .i64 a0_4, .int .i64 a0_5, .int .i64 a0_6, .int .i64 a0_7, .int .i64 a0_8, .int .i64 a0_9, .slice A0_10 l0_10.length c0_10] ?_; intro gb401 hg w10 hbox hb; have BK401 := am_ (hbox); have GW401 := gwk_ HB hg; have GE401 := GW401; replace HB := bst_ HB hb; clear hb hbox hg; have hcz11 := cells_11 BK401.out; have hfz11 := frozen_11 BK401.out) | ((with_reducible refine gate_callee (f := 56) rfl ?_); refine gom_ (some 6) Try.func56 (r03_Plain.calls k a0_0 a0_1 a0_2 a0_3 a0_4 a0_5 a0_6 a0_7 a0_8 a0_9 _ _ l0_10 _ _ (Kd.C_below HR0_10.out HB.out) HC0_10.out A3.out) ?_; rintro e w12 ⟨rfl, hb⟩; refine ⟨_, rfl, ?_⟩; replace BK401 := bkb_ BK401 hb; replace HB := bst_ HB hb; (try clear hb); have hcz13 := cells_11 BK401.out; have hfz13 := frozen_11 BK401.out))
    go_ret
    exact ⟨by first | rfl | (simp [*] <;> rfl), by repeat (first | (with_reducible first | exact HB.out | apply ba_ | apply bn_ | apply bd_ | refine bs_ ?_ GE401.out) | exact HB.out)⟩
   ·rw [if_neg c9] at H
    have c9b0 : decide ((l0_10.length : Int) ≤ a1) = false := decide_eq_false c9
    clear c9
    obtain ⟨t403, A14, H⟩ := bes_ H
    try dsimp only at H
    obtain rfl := Option.some.inj H
    go_enter Try.func76, Try.ntmps76
    try go_wp2_with (first | ((with_reducible refine gate_dst (N := 2) rfl ?_); (try (refine gate_guard (by rfl) ?_; dsimp only)); refine bxe_ 2 24 #[.int .i64 a0_0, .int .i64 a0_1, .int .i64 a0_2, .int .i64 a0_3, .int .i64 a0_4, .int .i64 a0_5, .int .i64 a0_6, .int .i64 a0_7, .int .i64 a0_8, .int .i64 a0_9, .slice A0_10 l0_10.length c0_10] ?_; intro gb401 hg w15 hbox hb; have BK401 := am_ (hbox); have GW401 := gwk_ HB hg; have GE401 := GW401; replace HB := bst_ HB hb; clear hb hbox hg; have hcz16 := cells_11 BK401.out; have hfz16 := frozen_11 BK401.out) | ((with_reducible refine gate_callee (f := 56) rfl ?_); refine gom_ (some 6) Try.func56 (r03_Plain.calls k a0_0 a0_1 a0_2 a0_3 a0_4 a0_5 a0_6 a0_7 a0_8 a0_9 _ _ l0_10 _ _ (Kd.C_below HR0_10.out HB.out) HC0_10.out A3.out) ?_; rintro e w17 ⟨rfl, hb⟩; refine ⟨_, rfl, ?_⟩; replace BK401 := bkb_ BK401 hb; replace HB := bst_ HB hb; (try clear hb); have hcz18 := cells_11 BK401.out; have hfz18 := frozen_11 BK401.out))
    replace BK401 := am_ (blk_drew BK401.out)
    replace HB := am_ (below_drew1 HB.out)
    refine start_ (n := 8) (S := fun w' => ce_ w' gb401 0 (.int .i64 a0_0) ∧ ce_ w' gb401 1 (.int .i64 a0_1) ∧ ce_ w' gb401 2 (.int .i64 a0_2) ∧ ce_ w' gb401 3 (.int .i64 a0_3) ∧ ce_ w' gb401 4 (.int .i64 a0_4) ∧ ce_ w' gb401 5 (.int .i64 a0_5) ∧ ce_ w' gb401 6 (.int .i64 a0_6) ∧ ce_ w' gb401 7 (.int .i64 a0_7) ∧ ce_ w' gb401 8 (.int .i64 a0_8) ∧ ce_ w' gb401 9 (.int .i64 a0_9) ∧ ce_ w' gb401 10 (.slice A0_10 l0_10.length c0_10)) (ds := []) #[false, false, false, false, false, false, false, false] (by kernel_rfl) rfl rfl ⟨(blk_cell BK401.out 0).trans rfl, (blk_cell BK401.out 1).trans rfl, (blk_cell BK401.out 2).trans rfl, (blk_cell BK401.out 3).trans rfl, (blk_cell BK401.out 4).trans rfl, (blk_cell BK401.out 5).trans rfl, (blk_cell BK401.out 6).trans rfl, (blk_cell BK401.out 7).trans rfl, (blk_cell BK401.out 8).trans rfl, (blk_cell BK401.out 9).trans rfl, (blk_cell BK401.out 10).trans rfl⟩ (fun hHeld => ?_); refine with_tabW r04_Middle.tab3 r04_Middle.bits3 (fun HT_ HW_ => ?_)
    generalize w17.drew = w19 at BK401 HB hHeld ⊢
    refine pur_ 1 (some 20) rfl rfl (any_of HT_.out (by kernel_rfl)) ?_
    refine pur_ 3 (some 22) rfl rfl (any_of HT_.out (by kernel_rfl)) ?_
    refine tak_ 0 (some 19) rfl rfl (take_ofW HT_.out HW_.out (by kernel_rfl)) hHeld ?_ (by rintro w' ⟨s0, s1, s2, s3, s4, s5, s6, s7, s8, s9, s10⟩; go_simp; with_reducible rfl)
    refine tak_ 4 (some 23) rfl rfl (take_ofW HT_.out HW_.out (by kernel_rfl)) hHeld ?_ (by rintro w' ⟨s0, s1, s2, s3, s4, s5, s6, s7, s8, s9, s10⟩; go_simp; with_reducible rfl)
    refine pur_ 5 (some 24) rfl rfl (any_of HT_.out (by kernel_rfl)) ?_
    refine oon_ 2 (some 21) rfl rfl (one_of HT_.out (by kernel_rfl)) (fun K hK => ?_)
    refine gos_ Try.func105 (r04_Begin.calls k a0_0 a0_1 a0_2 a0_3 a0_4 a0_5 a0_6 a0_7 a0_8 a0_9 _ _ l0_10 a1 _ _ (Kd.C_below HR0_10.out HB.out) HC0_10.out A14.out) ?_
    rintro e w20 ⟨rfl, hb⟩
    refine ⟨_, rfl, ?_⟩
    replace BK401 := bkb_ BK401 hb
    replace HB := bst_ HB hb
    (try clear hb)
    (try clear hb2)
    (try clear hk)
    (try clear hi)
    refine hK.out _ _ (cells_11 BK401.out) (fun hHeld => ?_)
    clear hK K
    refine nor_ 21 ?_
    refine pur_ 6 (some 25) rfl rfl (any_of HT_.out (by kernel_rfl)) ?_
    refine pur_ 7 (some 4) rfl rfl (any_of HT_.out (by kernel_rfl)) ?_
    refine done_ (done_of HT_.out (by kernel_rfl)) ?_
    try go_wp2
    go_ret
    exact ⟨by first | rfl | (simp [*] <;> rfl), by repeat (first | (with_reducible first | exact HB.out | apply ba_ | apply bn_ | apply bd_ | refine bs_ ?_ GE401.out) | exact HB.out)⟩
 ·rw [if_neg c4] at H
  have c4b0 : (t402 == 0) = false := beq_eq_false_iff_ne.mpr c4
  have c4b1 : (t402 != 0) = true := bne_iff_ne.mpr c4
  obtain rfl := Option.some.inj H
  go_enter Try.func76, Try.ntmps76
  go_wp2_with (first | ((with_reducible refine gate_dst (N := 2) rfl ?_); (try (refine gate_guard (by rfl) ?_; dsimp only)); refine bxe_ 2 24 #[.int .i64 a0_0, .int .i64 a0_1, .int .i64 a0_2, .int .i64 a0_3, .int .i64 a0_4, .int .i64 a0_5, .int .i64 a0_6, .int .i64 a0_7, .int .i64 a0_8, .int .i64 a0_9, .slice A0_10 l0_10.length c0_10] ?_; intro gb401 hg w21 hbox hb; have BK401 := am_ (hbox); have GW401 := gwk_ HB hg; have GE401 := GW401; replace HB := bst_ HB hb; clear hb hbox hg; have hcz22 := cells_11 BK401.out; have hfz22 := frozen_11 BK401.out) | ((with_reducible refine gate_callee (f := 56) rfl ?_); refine gom_ (some 6) Try.func56 (r03_Plain.calls k a0_0 a0_1 a0_2 a0_3 a0_4 a0_5 a0_6 a0_7 a0_8 a0_9 _ _ l0_10 _ _ (Kd.C_below HR0_10.out HB.out) HC0_10.out A3.out) ?_; rintro e w23 ⟨rfl, hb⟩; refine ⟨_, rfl, ?_⟩; replace BK401 := bkb_ BK401 hb; replace HB := bst_ HB hb; (try clear hb)))
  go_ret
  exact ⟨by first | rfl | (simp [*] <;> rfl), by repeat (first | (with_reducible first | exact HB.out | apply ba_ | apply bn_ | apply bd_ | refine bs_ ?_ GE401.out) | exact HB.out)⟩
def r04_Guard.f (k : Nat) (a0_0 a0_1 a0_2 a0_3 a0_4 a0_5 a0_6 a0_7 a0_8 a0_9 : Int) (l0_10 : List Int) : Option (Int) := (r03_Plain.f k a0_0 a0_1 a0_2 a0_3 a0_4 a0_5 a0_6 a0_7 a0_8 a0_9 l0_10).bind fun t402 => (if t402 = 0 then ((r04_Middle.f k a0_0 a0_1 a0_2 a0_3 a0_4 a0_5 a0_6 a0_7 a0_8 a0_9 l0_10 (wrap64 ((l0_10.length : Int) - 1))).bind fun t403 => (if (wrap64 (a0_4 - a0_5)) = 0 then (none) else (if (Int.tmod (wrap64 ((wrap64 (2 * a0_5)) * t403)) (wrap64 (a0_4 - a0_5))) > 0 then (some (wrap64 ((wrap64 ((wrap64 ((wrap64 (Int.tdiv (wrap64 ((wrap64 (2 * a0_5)) * t403)) (wrap64 (a0_4 - a0_5)))) + 1)) + a0_4)) + (wrap64 ((wrap64 (a0_2 + 1)) * a0_5))))) else (some (wrap64 ((wrap64 ((wrap64 (Int.tdiv (wrap64 ((wrap64 (2 * a0_5)) * t403)) (wrap64 (a0_4 - a0_5)))) + a0_4)) + (wrap64 ((wrap64 (a0_2 + 1)) * a0_5)))))))) else (some 0))
def r04_Guard.T3 : Bool × List (List Nat × List Nat) := (true, [([], []), ([0], [0]), ([1], [1]), ([], []), ([], []), ([4], [4]), ([5], [5]), ([6], [6]), ([3, 7], [3, 7]), ([2, 8], [2, 8]), ([9, 8, 0, 1, 2, 3, 4, 5, 6, 7, 8, 9], [9])])
def r04_Guard.B3 : List Nat := [0, 1, 3, 0, 0, 16, 48, 112, 248, 511, 1023]
theorem r04_Guard.tab3 : rtab .any (opsOf Try.f75 3) = r04_Guard.T3 := by kernel_rfl
theorem r04_Guard.bits3 : waitsOk r04_Guard.T3.2 r04_Guard.B3 = true := by kernel_rfl
set_option maxHeartbeats 8000000 in
set_option maxRecDepth 100000 in
theorem r04_Guard.calls (k : Nat) (a0_0 a0_1 a0_2 a0_3 a0_4 a0_5 a0_6 a0_7 a0_8 a0_9 : Int) (A0_10 : Option Addr) (c0_10 : Nat) (l0_10 : List Int) (r : Int) (w : World) (hr0_10 : Kd.C (Kd.int .i64) w A0_10 l0_10.length l0_10) (hc0_10 : l0_10.length ≤ c0_10) (h : r04_Guard.f k a0_0 a0_1 a0_2 a0_3 a0_4 a0_5 a0_6 a0_7 a0_8 a0_9 l0_10 = some r) :
  Calls Try.prog 75 #[.agg #[.int .i64 a0_0, .int .i64 a0_1, .int .i64 a0_2, .int .i64 a0_3, .int .i64 a0_4, .int .i64 a0_5, .int .i64 a0_6, .int .i64 a0_7, .int .i64 a0_8, .int .i64 a0_9, .slice A0_10 l0_10.length c0_10]] w fun e w' => e = .returned (.int .i64 r) ∧ Below w.heap.size w w' := by
 have hu24 := Try.underlying24
 have HR0_10 := am_ hr0_10
 have HC0_10 := am_ hc0_10
 clear hr0_10 hc0_10
 have HB := am_ (Below.refl w.heap.size w)
 have H := h
 unfold r04_Guard.f at H
 clear h
 obtain ⟨t402, A2, H⟩ := bes_ H
 try dsimp only at H
 by_cases c3 : t402 = 0
 ·rw [if_pos c3] at H
  have c3b0 : (t402 == 0) = true := beq_iff_eq.mpr c3
  have c3b1 : (t402 != 0) = false := bne_eq_false_iff_eq.mpr c3
  clear c3
  obtain ⟨t403, A4, H⟩ := bes_ H
  try dsimp only at H
  by_cases c5 : (wrap64 (a0_4 - a0_5)) = 0
  ·rw [if_pos c5] at H
   exact absurd H (by simp)
  ·rw [if_neg c5] at H
   have c5b0 : ((wrap64 (a0_4 - a0_5)) == 0) = false := beq_eq_false_iff_ne.mpr c5
   have c5b1 : ((wrap64 (a0_4 - a0_5)) != 0) = true := bne_iff_ne.mpr c5
   by_cases c6 : (Int.tmod (wrap64 ((wrap64 (2 * a0_5)) * t403)) (wrap64 (a0_4 - a0_5))) > 0
   rw [if_pos c6] at H
   have c6b0 : decide (0 < (Int.tmod (wrap64 ((wrap64 (2 * a0_5)) * t403)) (wrap64 (a0_4 - a0_5)))) = true := decide_eq_true c6
   rotate_left
   rw [if_neg c6] at H
   have c6b0 : decide (0 < (Int.tmod (wrap64 ((wrap64 (2 * a0_5)) * t403)) (wrap64 (a0_4 - a0_5)))) = false := decide_eq_false c6
   rotate_left
   all_goals
    clear c6
    obtain rfl := Option.some.inj H
    go_enter Try.func75, Try.ntmps75
    try go_wp2_with (first | ((with_reducible refine gate_dst (N := 1) rfl ?_); refine bxe_ 1 24 #[.int .i64 a0_0, .int .i64 a0_1, .int .i64 a0_2, .int .i64 a0_3, .int .i64 a0_4, .int .i64 a0_5, .int .i64 a0_6, .int .i64 a0_7, .int .i64 a0_8, .int .i64 a0_9, .slice A0_10 l0_10.length c0_10] ?_; intro gb401 hg w7 hbox hb; have BK401 := am_ (hbox); have GW401 := gwk_ HB hg; have GE401 := GW401; replace HB := bst_ HB hb; clear hb hbox hg; have hcz8 := cells_11 BK401.out; have hfz8 := frozen_11 BK401.out) | ((with_reducible refine gate_callee (f := 56) rfl ?_); refine gom_ (some 7) Try.func56 (r03_Plain.calls k a0_0 a0_1 a0_2 a0_3 a0_4 a0_5 a0_6 a0_7 a0_8 a0_9 _ _ l0_10 _ _ (Kd.C_below HR0_10.out HB.out) HC0_10.out A2.out) ?_; rintro e w9 ⟨rfl, hb⟩; refine ⟨_, rfl, ?_⟩; replace BK401 := bkb_ BK401 hb; replace HB := bst_ HB hb; (try clear hb)))
    replace BK401 := am_ (blk_drew BK401.out)
    replace HB := am_ (below_drew1 HB.out)
    refine start_ (n := 11) (S := fun w' => ce_ w' gb401 0 (.int .i64 a0_0) ∧ ce_ w' gb401 1 (.int .i64 a0_1) ∧ ce_ w' gb401 2 (.int .i64 a0_2) ∧ ce_ w' gb401 3 (.int .i64 a0_3) ∧ ce_ w' gb401 4 (.int .i64 a0_4) ∧ ce_ w' gb401 5 (.int .i64 a0_5) ∧ ce_ w' gb401 6 (.int .i64 a0_6) ∧ ce_ w' gb401 7 (.int .i64 a0_7) ∧ ce_ w' gb401 8 (.int .i64 a0_8) ∧ ce_ w' gb401 9 (.int .i64 a0_9) ∧ ce_ w' gb401 10 (.slice A0_10 l0_10.length c0_10)) (ds := []) #[false, false, false, false, false, false, false, false, false, false, false] (by kernel_rfl) rfl rfl ⟨(blk_cell BK401.out 0).trans rfl, (blk_cell BK401.out 1).trans rfl, (blk_cell BK401.out 2).trans rfl, (blk_cell BK401.out 3).trans rfl, (blk_cell BK401.out 4).trans rfl, (blk_cell BK401.out 5).trans rfl, (blk_cell BK401.out 6).trans rfl, (blk_cell BK401.out 7).trans rfl, (blk_cell BK401.out 8).trans rfl, (blk_cell BK401.out 9).trans rfl, (blk_cell BK401.out 10).trans rfl⟩ (fun hHeld => ?_); refine with_tabW r04_Guard.tab3 r04_Guard.bits3 (fun HT_ HW_ => ?_)
    generalize w9.drew = w10 at BK401 HB hHeld ⊢
    refine pur_ 0 (some 9) rfl rfl (any_of HT_.out (by kernel_rfl)) ?_
    refine pur_ 4 (some 13) rfl rfl (any_of HT_.out (by kernel_rfl)) ?_
    refine tak_ 1 (some 10) rfl rfl (take_ofW HT_.out HW_.out (by kernel_rfl)) hHeld ?_ (by rintro w' ⟨s0, s1, s2, s3, s4, s5, s6, s7, s8, s9, s10⟩; go_simp; with_reducible rfl)
    refine pur_ 2 (some 11) rfl rfl (any_of HT_.out (by kernel_rfl)) ?_
    refine tak_ 3 (some 12) rfl rfl (take_ofW HT_.out HW_.out (by kernel_rfl)) hHeld ?_ (by rintro w' ⟨s0, s1, s2, s3, s4, s5, s6, s7, s8, s9, s10⟩; go_simp; with_reducible rfl)
    refine tak_ 5 (some 14) rfl rfl (take_ofW HT_.out HW_.out (by kernel_rfl)) hHeld ?_ (by rintro w' ⟨s0, s1, s2, s3, s4, s5, s6, s7, s8, s9, s10⟩; go_simp; with_reducible rfl)
    refine pur_ 6 (some 15) rfl rfl (any_of HT_.out (by kernel_rfl)) ?_
    refine pur_ 7 (some 16) rfl rfl (any_of HT_.out (by kernel_rfl)) ?_
    refine oon_ 8 (some 17) rfl rfl (one_of HT_.out (by kernel_rfl)) (fun K hK => ?_)
    refine gos_ Try.func76 (r04_Middle.calls k a0_0 a0_1 a0_2 a0_3 a0_4 a0_5 a0_6 a0_7 a0_8 a0_9 _ _ l0_10 (wrap64 ((l0_10.length : Int) - 1)) _ _ (Kd.C_below HR0_10.out HB.out) HC0_10.out A4.out) ?_
    rintro e w11 ⟨rfl, hb⟩
    refine ⟨_, rfl, ?_⟩
    replace BK401 := bkb_ BK401 hb
    replace HB := bst_ HB hb
    (try clear hb)
    (try clear hb2)
    (try clear hk)
    (try clear hi)
    refine hK.out _ _ (cells_11 BK401.out) (fun hHeld => ?_)
    clear hK K
    refine nor_ 17 ?_
    refine pur_ 9 (some 18) rfl rfl (any_of HT_.out (by kernel_rfl)) ?_
    refine pur_ 10 (some 3) rfl rfl (any_of HT_.out (by kernel_rfl)) ?_
    refine done_ (done_of HT_.out (by kernel_rfl)) ?_
    have hcz12 := cells_11 BK401.out
    have hfz12 := frozen_11 BK401.out
    try go_wp2
    go_ret
    exact ⟨by first | rfl | (simp [*] <;> rfl), by repeat (first | (with_reducible first | exact HB.out | apply ba_ | apply bn_ | apply bd_ | refine bs_ ?_ GE401.out) | exact HB.out)⟩
 ·rw [if_neg c3] at H
  have c3b0 : (t402 == 0) = false := beq_eq_false_iff_ne.mpr c3
  have c3b1 : (t402 != 0) = true := bne_iff_ne.mpr c3
  obtain rfl := Option.some.inj H
  go_enter Try.func75, Try.ntmps75
  go_wp2_with (first | ((with_reducible refine gate_dst (N := 1) rfl ?_); refine bxe_ 1 24 #[.int .i64 a0_0, .int .i64 a0_1, .int .i64 a0_2, .int .i64 a0_3, .int .i64 a0_4, .int .i64 a0_5, .int .i64 a0_6, .int .i64 a0_7, .int .i64 a0_8, .int .i64 a0_9, .slice A0_10 l0_10.length c0_10] ?_; intro gb401 hg w19 hbox hb; have BK401 := am_ (hbox); have GW401 := gwk_ HB hg; have GE401 := GW401; replace HB := bst_ HB hb; clear hb hbox hg; have hcz20 := cells_11 BK401.out; have hfz20 := frozen_11 BK401.out) | ((with_reducible refine gate_callee (f := 56) rfl ?_); refine gom_ (some 7) Try.func56 (r03_Plain.calls k a0_0 a0_1 a0_2 a0_3 a0_4 a0_5 a0_6 a0_7 a0_8 a0_9 _ _ l0_10 _ _ (Kd.C_below HR0_10.out HB.out) HC0_10.out A2.out) ?_; rintro e w21 ⟨rfl, hb⟩; refine ⟨_, rfl, ?_⟩; replace BK401 := bkb_ BK401 hb; replace HB := bst_ HB hb; (try clear hb)))
  go_ret
  exact ⟨by first | rfl | (simp [*] <;> rfl), by repeat (first | (with_reducible first | exact HB.out | apply ba_ | apply bn_ | apply bd_ | refine bs_ ?_ GE401.out) | exact HB.out)⟩
end Go.Proofs.Ythdoghhmooodjaa.Gn
