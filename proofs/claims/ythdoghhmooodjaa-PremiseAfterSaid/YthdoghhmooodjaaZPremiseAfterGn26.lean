import Derived.Test.YthdoghhmooodjaaZPremiseAfterGn0
import Derived.Test.YthdoghhmooodjaaZPremiseAfterGn1
import Derived.Test.YthdoghhmooodjaaZPremiseAfterGn25
namespace Go.Proofs.Ythdoghhmooodjaa.Gn
open Go.RowKit Go.Proofs.YthdoghhmooodjaaW.PrintWords Go.Proofs.YthdoghhmooodjaaW.PrintLast Go.Proofs.YthdoghhmooodjaaW.PrintMore
attribute [local go_sem] max2_int min2_int max_two min_two max_three min_three max_four min_four   -- for this text's walks alone
set_option linter.unusedVariables false
set_option linter.unusedSimpArgs false
def r04_Begin.f (k : Nat) (B3 B4 B5 B6 B7 B8 B1 B2 B9 Ba : Int) (B0 : List Int) (a1 : Int) : Option (Int) := (r03_Plain.f k B3 B4 B5 B6 B7 B8 B1 B2 B9 Ba B0).bind fun Bb => (if Bb = 0 then (if a1 < 0 then (some 0) else (if a1 ≥ (B0.length : Int) then (some 0) else (some (wrap64 (B1 + (wrap64 (a1 * B2))))))) else (some 0))
set_option maxHeartbeats 8000000 in
set_option maxRecDepth 100000 in
theorem r04_Begin.calls (k : Nat) (B2 B3 B4 B5 B6 B7 B8 B9 Ba Bb : Int) (Bc : Option Addr) (Bd : Nat) (B1 : List Int) (a1 r : Int) (w : World) (Bi : Kd.C (Kd.int .i64) w Bc B1.length B1) (Bj : B1.length ≤ Bd) (h : r04_Begin.f k B2 B3 B4 B5 B6 B7 B8 B9 Ba Bb B1 a1 = some r) :
  Calls Try.prog 105 #[.agg #[.int .i64 B2, .int .i64 B3, .int .i64 B4, .int .i64 B5, .int .i64 B6, .int .i64 B7, .int .i64 B8, .int .i64 B9, .int .i64 Ba, .int .i64 Bb, .slice Bc B1.length Bd], .int .i64 a1] w fun e w' => e = .returned (.int .i64 r) ∧ Below w.heap.size w w' := by
 have Bw := Try.underlying24
 have Bg := am_ Bi
 have Bh := am_ Bj
 clear Bi Bj
 have HB := am_ (Below.refl w.heap.size w)
 have H := h
 unfold r04_Begin.f at H
 clear h
 obtain ⟨Bk, A3, H⟩ := bes_ H
 try dsimp only at H
 by_cases c4 : Bk = 0
 ·rw [if_pos c4] at H
  have Bm : (Bk == 0) = true := beq_iff_eq.mpr c4
  have Bn : (Bk != 0) = false := bne_eq_false_iff_eq.mpr c4
  clear c4
  by_cases c5 : a1 < 0
  ·rw [if_pos c5] at H
   have Bo : decide (a1 < 0) = true := decide_eq_true c5
   clear c5
   obtain rfl := Option.some.inj H
   go_enter Try.func105, Try.ntmps105
   go_wp2_with (first | ((with_reducible refine gate_dst (N := 2) rfl ?_); (try (refine gate_guard (by rfl) ?_; dsimp only)); refine bxe_ 2 24 #[.int .i64 B2, .int .i64 B3, .int .i64 B4, .int .i64 B5, .int .i64 B6, .int .i64 B7, .int .i64 B8, .int .i64 B9, .int .i64 Ba, .int .i64 Bb, .slice Bc B1.length Bd] ?_; intro Bl hg w6 hbox hb; have B0 := am_ (hbox); have Be := gwk_ HB hg; have Bf := Be; replace HB := bst_ HB hb; clear hb hbox hg; have Bx := cells_11 B0.out; have By := frozen_11 B0.out) | ((with_reducible refine gate_callee (f := 56) rfl ?_); refine gom_ (some 6) Try.func56 (r03_Plain.calls k B2 B3 B4 B5 B6 B7 B8 B9 Ba Bb _ _ B1 _ _ (Kd.C_below Bg.out HB.out) Bh.out A3.out) ?_; rintro e w8 ⟨rfl, hb⟩; refine ⟨_, rfl, ?_⟩; replace B0 := bkb_ B0 hb; replace HB := bst_ HB hb; (try clear hb)))
   go_ret
   exact ⟨by first | rfl | (simp [*] <;> rfl), by repeat (first | (with_reducible first | exact HB.out | apply ba_ | apply bn_ | apply bd_ | refine bs_ ?_ Bf.out) | exact HB.out)⟩
  ·rw [if_neg c5] at H
   have Bo : decide (a1 < 0) = false := decide_eq_false c5
   clear c5
   by_cases c9 : a1 ≥ (B1.length : Int)
   rw [if_pos c9] at H
   have Bp : decide ((B1.length : Int) ≤ a1) = true := decide_eq_true c9
   rotate_left
   rw [if_neg c9] at H
   have Bp : decide ((B1.length : Int) ≤ a1) = false := decide_eq_false c9
   rotate_left
   all_goals
    clear c9
    obtain rfl := Option.some.inj H
    go_enter Try.func105, Try.ntmps105
    go_wp2_with (first | ((with_reducible refine gate_dst (N := 2) rfl ?_); (try (refine gate_guard (by rfl) ?_; dsimp only)); refine bxe_ 2 24 #[.int .i64 B2, .int .i64 B3, .int .i64 B4, .int .i64 B5, .int .i64 B6, .int .i64 B7, .int .i64 B8, .int .i64 B9, .int .i64 Ba, .int .i64 Bb, .slice Bc B1.length Bd] ?_; intro Bl hg w10 hbox hb; have B0 := am_ (hbox); have Be := gwk_ HB hg; have Bf := Be; replace HB := bst_ HB hb; clear hb hbox hg; have Bq := cells_11 B0.out; have Br := frozen_11 B0.out) | ((with_reducible refine gate_callee (f := 56) rfl ?_); refine gom_ (some 6) Try.func56 (r03_Plain.calls k B2 B3 B4 B5 B6 B7 B8 B9 Ba Bb _ _ B1 _ _ (Kd.C_below Bg.out HB.out) Bh.out A3.out) ?_; rintro e w12 ⟨rfl, hb⟩; refine ⟨_, rfl, ?_⟩; replace B0 := bkb_ B0 hb; replace HB := bst_ HB hb; (try clear hb); have Bs := cells_11 B0.out; have Bt := frozen_11 B0.out))
    go_ret
    exact ⟨by first | rfl | (simp [*] <;> rfl), by repeat (first | (with_reducible first | exact HB.out | apply ba_ | apply bn_ | apply bd_ | refine bs_ ?_ Bf.out) | exact HB.out)⟩
 ·rw [if_neg c4] at H
  have Bm : (Bk == 0) = false := beq_eq_false_iff_ne.mpr c4
  have Bn : (Bk != 0) = true := bne_iff_ne.mpr c4
  obtain rfl := Option.some.inj H
  go_enter Try.func105, Try.ntmps105
  go_wp2_with (first | ((with_reducible refine gate_dst (N := 2) rfl ?_); (try (refine gate_guard (by rfl) ?_; dsimp only)); refine bxe_ 2 24 #[.int .i64 B2, .int .i64 B3, .int .i64 B4, .int .i64 B5, .int .i64 B6, .int .i64 B7, .int .i64 B8, .int .i64 B9, .int .i64 Ba, .int .i64 Bb, .slice Bc B1.length Bd] ?_; intro Bl hg w18 hbox hb; have B0 := am_ (hbox); have Be := gwk_ HB hg; have Bf := Be; replace HB := bst_ HB hb; clear hb hbox hg; have Bu := cells_11 B0.out; have Bv := frozen_11 B0.out) | ((with_reducible refine gate_callee (f := 56) rfl ?_); refine gom_ (some 6) Try.func56 (r03_Plain.calls k B2 B3 B4 B5 B6 B7 B8 B9 Ba Bb _ _ B1 _ _ (Kd.C_below Bg.out HB.out) Bh.out A3.out) ?_; rintro e w20 ⟨rfl, hb⟩; refine ⟨_, rfl, ?_⟩; replace B0 := bkb_ B0 hb; replace HB := bst_ HB hb; (try clear hb)))
  go_ret
  exact ⟨by first | rfl | (simp [*] <;> rfl), by repeat (first | (with_reducible first | exact HB.out | apply ba_ | apply bn_ | apply bd_ | refine bs_ ?_ Bf.out) | exact HB.out)⟩
def r04_Middle.f (k : Nat) (B2 B3 B4 B5 B6 B7 B8 B1 B9 Ba : Int) (B0 : List Int) (a1 : Int) : Option (Int) := (r03_Plain.f k B2 B3 B4 B5 B6 B7 B8 B1 B9 Ba B0).bind fun Bb => (if Bb = 0 then (if a1 < 0 then (some 0) else (if a1 ≥ (B0.length : Int) then (some 0) else ((r04_Begin.f k B2 B3 B4 B5 B6 B7 B8 B1 B9 Ba B0 a1).bind fun Bc => (some (wrap64 (Bc + (wrap64 (Int.tdiv B1 2)))))))) else (some 0))
def r04_Middle.T3 : Bool × List (List Nat × List Nat) := (true, [([], []), ([], []), ([0, 1], [0, 1]), ([], []), ([3], [3]), ([4], [4]), ([2, 5], [2, 5]), ([6, 2, 0, 1, 2, 3, 4, 5, 6], [6])])
def r04_Middle.B3 : List Nat := [0, 0, 3, 0, 8, 24, 63, 127]
theorem r04_Middle.tab3 : rtab .any (opsOf Try.f76 3) = r04_Middle.T3 := by kernel_rfl
theorem r04_Middle.bits3 : waitsOk r04_Middle.T3.2 r04_Middle.B3 = true := by kernel_rfl
set_option maxHeartbeats 8000000 in
set_option maxRecDepth 100000 in
theorem r04_Middle.calls (k : Nat) (B3 B4 B5 B6 B7 B8 B9 Ba Bb Bc : Int) (Bd : Option Addr) (Be : Nat) (B1 : List Int) (a1 r : Int) (w : World) (Bj : Kd.C (Kd.int .i64) w Bd B1.length B1) (Bk : B1.length ≤ Be) (h : r04_Middle.f k B3 B4 B5 B6 B7 B8 B9 Ba Bb Bc B1 a1 = some r) :
  Calls Try.prog 76 #[.agg #[.int .i64 B3, .int .i64 B4, .int .i64 B5, .int .i64 B6, .int .i64 B7, .int .i64 B8, .int .i64 B9, .int .i64 Ba, .int .i64 Bb, .int .i64 Bc, .slice Bd B1.length Be], .int .i64 a1] w fun e w' => e = .returned (.int .i64 r) ∧ Below w.heap.size w w' := by
 have D0 := Try.underlying24
 have Bf := am_ Bj
 have Bg := am_ Bk
 clear Bj Bk
 have HB := am_ (Below.refl w.heap.size w)
 have H := h
 unfold r04_Middle.f at H
 clear h
 obtain ⟨Bl, A3, H⟩ := bes_ H
 try dsimp only at H
 by_cases c4 : Bl = 0
 ·rw [if_pos c4] at H
  have Bm : (Bl == 0) = true := beq_iff_eq.mpr c4
  have Bn : (Bl != 0) = false := bne_eq_false_iff_eq.mpr c4
  clear c4
  by_cases c5 : a1 < 0
  ·rw [if_pos c5] at H
   have Bo : decide (a1 < 0) = true := decide_eq_true c5
   clear c5
   obtain rfl := Option.some.inj H
   go_enter Try.func76, Try.ntmps76
   go_wp2_with (first | ((with_reducible refine gate_dst (N := 2) rfl ?_); (try (refine gate_guard (by rfl) ?_; dsimp only)); refine bxe_ 2 24 #[.int .i64 B3, .int .i64 B4, .int .i64 B5, .int .i64 B6, .int .i64 B7, .int .i64 B8, .int .i64 B9, .int .i64 Ba, .int .i64 Bb, .int .i64 Bc, .slice Bd B1.length Be] ?_; intro B2 hg w6 hbox hb; have B0 := am_ (hbox); have Bh := gwk_ HB hg; have Bi := Bh; replace HB := bst_ HB hb; clear hb hbox hg; have D1 := cells_11 B0.out; have D2 := frozen_11 B0.out) | ((with_reducible refine gate_callee (f := 56) rfl ?_); refine gom_ (some 6) Try.func56 (r03_Plain.calls k B3 B4 B5 B6 B7 B8 B9 Ba Bb Bc _ _ B1 _ _ (Kd.C_below Bf.out HB.out) Bg.out A3.out) ?_; rintro e w8 ⟨rfl, hb⟩; refine ⟨_, rfl, ?_⟩; replace B0 := bkb_ B0 hb; replace HB := bst_ HB hb; (try clear hb)))
   go_ret
   exact ⟨by first | rfl | (simp [*] <;> rfl), by repeat (first | (with_reducible first | exact HB.out | apply ba_ | apply bn_ | apply bd_ | refine bs_ ?_ Bi.out) | exact HB.out)⟩
  ·rw [if_neg c5] at H
   have Bo : decide (a1 < 0) = false := decide_eq_false c5
   clear c5
   by_cases c9 : a1 ≥ (B1.length : Int)
   ·rw [if_pos c9] at H
    have Bp : decide ((B1.length : Int) ≤ a1) = true := decide_eq_true c9
    clear c9
    obtain rfl := Option.some.inj H
    go_enter Try.func76, Try.ntmps76
    go_wp2_with (first | ((with_reducible refine gate_dst (N := 2) rfl ?_); (try (refine gate_guard (by rfl) ?_; dsimp only)); refine bxe_ 2 24 #[.int .i64 B3, .int .i64 B4, .int .i64 B5, .int .i64 B6, .int .i64 B7, .int .i64 B8, .int .i64 B9, .int .i64 Ba, .int .i64 Bb, .int .i64 Bc, .slice Bd B1.length Be] ?_; intro B2 hg w10 hbox hb; have B0 := am_ (hbox); have Bh := gwk_ HB hg; have Bi := Bh; replace HB := bst_ HB hb; clear hb hbox hg; have Bq := cells_11 B0.out; have Br := frozen_11 B0.out) | ((with_reducible refine gate_callee (f := 56) rfl ?_); refine gom_ (some 6) Try.func56 (r03_Plain.calls k B3 B4 B5 B6 B7 B8 B9 Ba Bb Bc _ _ B1 _ _ (Kd.C_below Bf.out HB.out) Bg.out A3.out) ?_; rintro e w12 ⟨rfl, hb⟩; refine ⟨_, rfl, ?_⟩; replace B0 := bkb_ B0 hb; replace HB := bst_ HB hb; (try clear hb); have Bs := cells_11 B0.out; have Bt := frozen_11 B0.out))
    go_ret
    exact ⟨by first | rfl | (simp [*] <;> rfl), by repeat (first | (with_reducible first | exact HB.out | apply ba_ | apply bn_ | apply bd_ | refine bs_ ?_ Bi.out) | exact HB.out)⟩
   ·rw [if_neg c9] at H
    have Bp : decide ((B1.length : Int) ≤ a1) = false := decide_eq_false c9
    clear c9
    obtain ⟨D3, D4, H⟩ := bes_ H
    try dsimp only at H
    obtain rfl := Option.some.inj H
    go_enter Try.func76, Try.ntmps76
    try go_wp2_with (first | ((with_reducible refine gate_dst (N := 2) rfl ?_); (try (refine gate_guard (by rfl) ?_; dsimp only)); refine bxe_ 2 24 #[.int .i64 B3, .int .i64 B4, .int .i64 B5, .int .i64 B6, .int .i64 B7, .int .i64 B8, .int .i64 B9, .int .i64 Ba, .int .i64 Bb, .int .i64 Bc, .slice Bd B1.length Be] ?_; intro B2 hg w15 hbox hb; have B0 := am_ (hbox); have Bh := gwk_ HB hg; have Bi := Bh; replace HB := bst_ HB hb; clear hb hbox hg; have Bu := cells_11 B0.out; have Bv := frozen_11 B0.out) | ((with_reducible refine gate_callee (f := 56) rfl ?_); refine gom_ (some 6) Try.func56 (r03_Plain.calls k B3 B4 B5 B6 B7 B8 B9 Ba Bb Bc _ _ B1 _ _ (Kd.C_below Bf.out HB.out) Bg.out A3.out) ?_; rintro e w17 ⟨rfl, hb⟩; refine ⟨_, rfl, ?_⟩; replace B0 := bkb_ B0 hb; replace HB := bst_ HB hb; (try clear hb); have Bw := cells_11 B0.out; have Bx := frozen_11 B0.out))
    replace B0 := am_ (blk_drew B0.out)
    replace HB := am_ (below_drew1 HB.out)
    refine start_ (n := 8) (S := fun w' => ce_ w' B2 0 (.int .i64 B3) ∧ ce_ w' B2 1 (.int .i64 B4) ∧ ce_ w' B2 2 (.int .i64 B5) ∧ ce_ w' B2 3 (.int .i64 B6) ∧ ce_ w' B2 4 (.int .i64 B7) ∧ ce_ w' B2 5 (.int .i64 B8) ∧ ce_ w' B2 6 (.int .i64 B9) ∧ ce_ w' B2 7 (.int .i64 Ba) ∧ ce_ w' B2 8 (.int .i64 Bb) ∧ ce_ w' B2 9 (.int .i64 Bc) ∧ ce_ w' B2 10 (.slice Bd B1.length Be)) (ds := []) #[false, false, false, false, false, false, false, false] (by kernel_rfl) rfl rfl ⟨(blk_cell B0.out 0).trans rfl, (blk_cell B0.out 1).trans rfl, (blk_cell B0.out 2).trans rfl, (blk_cell B0.out 3).trans rfl, (blk_cell B0.out 4).trans rfl, (blk_cell B0.out 5).trans rfl, (blk_cell B0.out 6).trans rfl, (blk_cell B0.out 7).trans rfl, (blk_cell B0.out 8).trans rfl, (blk_cell B0.out 9).trans rfl, (blk_cell B0.out 10).trans rfl⟩ (fun hHeld => ?_); refine with_tabW r04_Middle.tab3 r04_Middle.bits3 (fun HT_ HW_ => ?_)
    generalize w17.drew = w19 at B0 HB hHeld ⊢
    refine pur_ 1 (some 20) rfl rfl (any_of HT_.out (by kernel_rfl)) ?_
    refine pur_ 3 (some 22) rfl rfl (any_of HT_.out (by kernel_rfl)) ?_
    refine tak_ 0 (some 19) rfl rfl (take_ofW HT_.out HW_.out (by kernel_rfl)) hHeld ?_ (by rintro w' ⟨s0, s1, s2, s3, s4, s5, s6, s7, s8, s9, s10⟩; go_simp; with_reducible rfl)
    refine tak_ 4 (some 23) rfl rfl (take_ofW HT_.out HW_.out (by kernel_rfl)) hHeld ?_ (by rintro w' ⟨s0, s1, s2, s3, s4, s5, s6, s7, s8, s9, s10⟩; go_simp; with_reducible rfl)
    refine pur_ 5 (some 24) rfl rfl (any_of HT_.out (by kernel_rfl)) ?_
    refine oon_ 2 (some 21) rfl rfl (one_of HT_.out (by kernel_rfl)) (fun K hK => ?_)
    refine gos_ Try.func105 (r04_Begin.calls k B3 B4 B5 B6 B7 B8 B9 Ba Bb Bc _ _ B1 a1 _ _ (Kd.C_below Bf.out HB.out) Bg.out D4.out) ?_
    rintro e w20 ⟨rfl, hb⟩
    refine ⟨_, rfl, ?_⟩
    replace B0 := bkb_ B0 hb
    replace HB := bst_ HB hb
    (try clear hb)
    (try clear hb2)
    (try clear hk)
    (try clear hi)
    refine hK.out _ _ (cells_11 B0.out) (fun hHeld => ?_)
    clear hK K
    refine nor_ 21 ?_
    refine pur_ 6 (some 25) rfl rfl (any_of HT_.out (by kernel_rfl)) ?_
    refine pur_ 7 (some 4) rfl rfl (any_of HT_.out (by kernel_rfl)) ?_
    refine done_ (done_of HT_.out (by kernel_rfl)) ?_
    try go_wp2
    go_ret
    exact ⟨by first | rfl | (simp [*] <;> rfl), by repeat (first | (with_reducible first | exact HB.out | apply ba_ | apply bn_ | apply bd_ | refine bs_ ?_ Bi.out) | exact HB.out)⟩
 ·rw [if_neg c4] at H
  have Bm : (Bl == 0) = false := beq_eq_false_iff_ne.mpr c4
  have Bn : (Bl != 0) = true := bne_iff_ne.mpr c4
  obtain rfl := Option.some.inj H
  go_enter Try.func76, Try.ntmps76
  go_wp2_with (first | ((with_reducible refine gate_dst (N := 2) rfl ?_); (try (refine gate_guard (by rfl) ?_; dsimp only)); refine bxe_ 2 24 #[.int .i64 B3, .int .i64 B4, .int .i64 B5, .int .i64 B6, .int .i64 B7, .int .i64 B8, .int .i64 B9, .int .i64 Ba, .int .i64 Bb, .int .i64 Bc, .slice Bd B1.length Be] ?_; intro B2 hg w21 hbox hb; have B0 := am_ (hbox); have Bh := gwk_ HB hg; have Bi := Bh; replace HB := bst_ HB hb; clear hb hbox hg; have By := cells_11 B0.out; have Bz := frozen_11 B0.out) | ((with_reducible refine gate_callee (f := 56) rfl ?_); refine gom_ (some 6) Try.func56 (r03_Plain.calls k B3 B4 B5 B6 B7 B8 B9 Ba Bb Bc _ _ B1 _ _ (Kd.C_below Bf.out HB.out) Bg.out A3.out) ?_; rintro e w23 ⟨rfl, hb⟩; refine ⟨_, rfl, ?_⟩; replace B0 := bkb_ B0 hb; replace HB := bst_ HB hb; (try clear hb)))
  go_ret
  exact ⟨by first | rfl | (simp [*] <;> rfl), by repeat (first | (with_reducible first | exact HB.out | apply ba_ | apply bn_ | apply bd_ | refine bs_ ?_ Bi.out) | exact HB.out)⟩
def r04_Guard.f (k : Nat) (B5 B6 B3 B7 B1 B0 B8 B9 Ba Bb : Int) (B2 : List Int) : Option (Int) := (r03_Plain.f k B5 B6 B3 B7 B1 B0 B8 B9 Ba Bb B2).bind fun Bc => (if Bc = 0 then ((r04_Middle.f k B5 B6 B3 B7 B1 B0 B8 B9 Ba Bb B2 (wrap64 ((B2.length : Int) - 1))).bind fun B4 => (if (wrap64 (B1 - B0)) = 0 then (none) else (if (Int.tmod (wrap64 ((wrap64 (2 * B0)) * B4)) (wrap64 (B1 - B0))) > 0 then (some (wrap64 ((wrap64 ((wrap64 ((wrap64 (Int.tdiv (wrap64 ((wrap64 (2 * B0)) * B4)) (wrap64 (B1 - B0)))) + 1)) + B1)) + (wrap64 ((wrap64 (B3 + 1)) * B0))))) else (some (wrap64 ((wrap64 ((wrap64 (Int.tdiv (wrap64 ((wrap64 (2 * B0)) * B4)) (wrap64 (B1 - B0)))) + B1)) + (wrap64 ((wrap64 (B3 + 1)) * B0)))))))) else (some 0))
def r04_Guard.T3 : Bool × List (List Nat × List Nat) := (true, [([], []), ([0], [0]), ([1], [1]), ([], []), ([], []), ([4], [4]), ([5], [5]), ([6], [6]), ([3, 7], [3, 7]), ([2, 8], [2, 8]), ([9, 8, 0, 1, 2, 3, 4, 5, 6, 7, 8, 9], [9])])
def r04_Guard.B3 : List Nat := [0, 1, 3, 0, 0, 16, 48, 112, 248, 511, 1023]
theorem r04_Guard.tab3 : rtab .any (opsOf Try.f75 3) = r04_Guard.T3 := by kernel_rfl
theorem r04_Guard.bits3 : waitsOk r04_Guard.T3.2 r04_Guard.B3 = true := by kernel_rfl
set_option maxHeartbeats 8000000 in
set_option maxRecDepth 100000 in
theorem r04_Guard.calls (k : Nat) (B5 B6 B7 B8 B4 B3 B9 Ba Bb Bc : Int) (Bd : Option Addr) (Be : Nat) (B1 : List Int) (r : Int) (w : World) (Bh : Kd.C (Kd.int .i64) w Bd B1.length B1) (Bi : B1.length ≤ Be) (h : r04_Guard.f k B5 B6 B7 B8 B4 B3 B9 Ba Bb Bc B1 = some r) :
  Calls Try.prog 75 #[.agg #[.int .i64 B5, .int .i64 B6, .int .i64 B7, .int .i64 B8, .int .i64 B4, .int .i64 B3, .int .i64 B9, .int .i64 Ba, .int .i64 Bb, .int .i64 Bc, .slice Bd B1.length Be]] w fun e w' => e = .returned (.int .i64 r) ∧ Below w.heap.size w w' := by
 have Bu := Try.underlying24
 have Bf := am_ Bh
 have Bg := am_ Bi
 clear Bh Bi
 have HB := am_ (Below.refl w.heap.size w)
 have H := h
 unfold r04_Guard.f at H
 clear h
 obtain ⟨Bj, A2, H⟩ := bes_ H
 try dsimp only at H
 by_cases c3 : Bj = 0
 ·rw [if_pos c3] at H
  have Bn : (Bj == 0) = true := beq_iff_eq.mpr c3
  have Bo : (Bj != 0) = false := bne_eq_false_iff_eq.mpr c3
  clear c3
  obtain ⟨Bm, A4, H⟩ := bes_ H
  try dsimp only at H
  by_cases c5 : (wrap64 (B4 - B3)) = 0
  ·rw [if_pos c5] at H
   exact absurd H (by simp)
  ·rw [if_neg c5] at H
   have Bv : ((wrap64 (B4 - B3)) == 0) = false := beq_eq_false_iff_ne.mpr c5
   have Bw : ((wrap64 (B4 - B3)) != 0) = true := bne_iff_ne.mpr c5
   by_cases c6 : (Int.tmod (wrap64 ((wrap64 (2 * B3)) * Bm)) (wrap64 (B4 - B3))) > 0
   rw [if_pos c6] at H
   have Bp : decide (0 < (Int.tmod (wrap64 ((wrap64 (2 * B3)) * Bm)) (wrap64 (B4 - B3)))) = true := decide_eq_true c6
   rotate_left
   rw [if_neg c6] at H
   have Bp : decide (0 < (Int.tmod (wrap64 ((wrap64 (2 * B3)) * Bm)) (wrap64 (B4 - B3)))) = false := decide_eq_false c6
   rotate_left
   all_goals
    clear c6
    obtain rfl := Option.some.inj H
    go_enter Try.func75, Try.ntmps75
    try go_wp2_with (first | ((with_reducible refine gate_dst (N := 1) rfl ?_); refine bxe_ 1 24 #[.int .i64 B5, .int .i64 B6, .int .i64 B7, .int .i64 B8, .int .i64 B4, .int .i64 B3, .int .i64 B9, .int .i64 Ba, .int .i64 Bb, .int .i64 Bc, .slice Bd B1.length Be] ?_; intro B2 hg w7 hbox hb; have B0 := am_ (hbox); have Bk := gwk_ HB hg; have Bl := Bk; replace HB := bst_ HB hb; clear hb hbox hg; have Bx := cells_11 B0.out; have By := frozen_11 B0.out) | ((with_reducible refine gate_callee (f := 56) rfl ?_); refine gom_ (some 7) Try.func56 (r03_Plain.calls k B5 B6 B7 B8 B4 B3 B9 Ba Bb Bc _ _ B1 _ _ (Kd.C_below Bf.out HB.out) Bg.out A2.out) ?_; rintro e w9 ⟨rfl, hb⟩; refine ⟨_, rfl, ?_⟩; replace B0 := bkb_ B0 hb; replace HB := bst_ HB hb; (try clear hb)))
    replace B0 := am_ (blk_drew B0.out)
    replace HB := am_ (below_drew1 HB.out)
    refine start_ (n := 11) (S := fun w' => ce_ w' B2 0 (.int .i64 B5) ∧ ce_ w' B2 1 (.int .i64 B6) ∧ ce_ w' B2 2 (.int .i64 B7) ∧ ce_ w' B2 3 (.int .i64 B8) ∧ ce_ w' B2 4 (.int .i64 B4) ∧ ce_ w' B2 5 (.int .i64 B3) ∧ ce_ w' B2 6 (.int .i64 B9) ∧ ce_ w' B2 7 (.int .i64 Ba) ∧ ce_ w' B2 8 (.int .i64 Bb) ∧ ce_ w' B2 9 (.int .i64 Bc) ∧ ce_ w' B2 10 (.slice Bd B1.length Be)) (ds := []) #[false, false, false, false, false, false, false, false, false, false, false] (by kernel_rfl) rfl rfl ⟨(blk_cell B0.out 0).trans rfl, (blk_cell B0.out 1).trans rfl, (blk_cell B0.out 2).trans rfl, (blk_cell B0.out 3).trans rfl, (blk_cell B0.out 4).trans rfl, (blk_cell B0.out 5).trans rfl, (blk_cell B0.out 6).trans rfl, (blk_cell B0.out 7).trans rfl, (blk_cell B0.out 8).trans rfl, (blk_cell B0.out 9).trans rfl, (blk_cell B0.out 10).trans rfl⟩ (fun hHeld => ?_); refine with_tabW r04_Guard.tab3 r04_Guard.bits3 (fun HT_ HW_ => ?_)
    generalize w9.drew = w10 at B0 HB hHeld ⊢
    refine pur_ 0 (some 9) rfl rfl (any_of HT_.out (by kernel_rfl)) ?_
    refine pur_ 4 (some 13) rfl rfl (any_of HT_.out (by kernel_rfl)) ?_
    refine tak_ 1 (some 10) rfl rfl (take_ofW HT_.out HW_.out (by kernel_rfl)) hHeld ?_ (by rintro w' ⟨s0, s1, s2, s3, s4, s5, s6, s7, s8, s9, s10⟩; go_simp; with_reducible rfl)
    refine pur_ 2 (some 11) rfl rfl (any_of HT_.out (by kernel_rfl)) ?_
    refine tak_ 3 (some 12) rfl rfl (take_ofW HT_.out HW_.out (by kernel_rfl)) hHeld ?_ (by rintro w' ⟨s0, s1, s2, s3, s4, s5, s6, s7, s8, s9, s10⟩; go_simp; with_reducible rfl)
    refine tak_ 5 (some 14) rfl rfl (take_ofW HT_.out HW_.out (by kernel_rfl)) hHeld ?_ (by rintro w' ⟨s0, s1, s2, s3, s4, s5, s6, s7, s8, s9, s10⟩; go_simp; with_reducible rfl)
    refine pur_ 6 (some 15) rfl rfl (any_of HT_.out (by kernel_rfl)) ?_
    refine pur_ 7 (some 16) rfl rfl (any_of HT_.out (by kernel_rfl)) ?_
    refine oon_ 8 (some 17) rfl rfl (one_of HT_.out (by kernel_rfl)) (fun K hK => ?_)
    refine gos_ Try.func76 (r04_Middle.calls k B5 B6 B7 B8 B4 B3 B9 Ba Bb Bc _ _ B1 (wrap64 ((B1.length : Int) - 1)) _ _ (Kd.C_below Bf.out HB.out) Bg.out A4.out) ?_
    rintro e w11 ⟨rfl, hb⟩
    refine ⟨_, rfl, ?_⟩
    replace B0 := bkb_ B0 hb
    replace HB := bst_ HB hb
    (try clear hb)
    (try clear hb2)
    (try clear hk)
    (try clear hi)
    refine hK.out _ _ (cells_11 B0.out) (fun hHeld => ?_)
    clear hK K
    refine nor_ 17 ?_
    refine pur_ 9 (some 18) rfl rfl (any_of HT_.out (by kernel_rfl)) ?_
    refine pur_ 10 (some 3) rfl rfl (any_of HT_.out (by kernel_rfl)) ?_
    refine done_ (done_of HT_.out (by kernel_rfl)) ?_
    have Bq := cells_11 B0.out
    have Br := frozen_11 B0.out
    try go_wp2
    go_ret
    exact ⟨by first | rfl | (simp [*] <;> rfl), by repeat (first | (with_reducible first | exact HB.out | apply ba_ | apply bn_ | apply bd_ | refine bs_ ?_ Bl.out) | exact HB.out)⟩
 ·rw [if_neg c3] at H
  have Bn : (Bj == 0) = false := beq_eq_false_iff_ne.mpr c3
  have Bo : (Bj != 0) = true := bne_iff_ne.mpr c3
  obtain rfl := Option.some.inj H
  go_enter Try.func75, Try.ntmps75
  go_wp2_with (first | ((with_reducible refine gate_dst (N := 1) rfl ?_); refine bxe_ 1 24 #[.int .i64 B5, .int .i64 B6, .int .i64 B7, .int .i64 B8, .int .i64 B4, .int .i64 B3, .int .i64 B9, .int .i64 Ba, .int .i64 Bb, .int .i64 Bc, .slice Bd B1.length Be] ?_; intro B2 hg w19 hbox hb; have B0 := am_ (hbox); have Bk := gwk_ HB hg; have Bl := Bk; replace HB := bst_ HB hb; clear hb hbox hg; have Bs := cells_11 B0.out; have Bt := frozen_11 B0.out) | ((with_reducible refine gate_callee (f := 56) rfl ?_); refine gom_ (some 7) Try.func56 (r03_Plain.calls k B5 B6 B7 B8 B4 B3 B9 Ba Bb Bc _ _ B1 _ _ (Kd.C_below Bf.out HB.out) Bg.out A2.out) ?_; rintro e w21 ⟨rfl, hb⟩; refine ⟨_, rfl, ?_⟩; replace B0 := bkb_ B0 hb; replace HB := bst_ HB hb; (try clear hb)))
  go_ret
  exact ⟨by first | rfl | (simp [*] <;> rfl), by repeat (first | (with_reducible first | exact HB.out | apply ba_ | apply bn_ | apply bd_ | refine bs_ ?_ Bl.out) | exact HB.out)⟩
end Go.Proofs.Ythdoghhmooodjaa.Gn
