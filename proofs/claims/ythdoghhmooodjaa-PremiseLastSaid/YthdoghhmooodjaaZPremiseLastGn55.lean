import Derived.Test.YthdoghhmooodjaaZPremiseLastGn0
import Derived.Test.YthdoghhmooodjaaZPremiseLastGn1
import Derived.Test.YthdoghhmooodjaaZPremiseLastGn35
import Derived.Test.YthdoghhmooodjaaZPremiseLastGn53
import Derived.Test.YthdoghhmooodjaaZPremiseLastGn23
namespace Go.Proofs.Ythdoghhmooodjaa.Gn
open Go.RowKit Go.Proofs.YthdoghhmooodjaaW.PrintWords Go.Proofs.YthdoghhmooodjaaW.PrintLast Go.Proofs.YthdoghhmooodjaaW.PrintMore
attribute [local go_sem] max2_int min2_int max_two min_two max_three min_three max_four min_four   -- for this text's walks alone
set_option linter.unusedVariables false
set_option linter.unusedSimpArgs false
def r34_Last.l0 : Nat → Int → Int → Int → Int → Int → Int → Int → Int → Int → Int → Int → Int → List Int → List Int → List ByteArray → List (S44) → Option (Int)
 | 0, _, _, _, _, _, _, _, _, _, _, _, _, _, _, _, _ => none
 | k + 1, x3, x4, B1, B2, B3, B4, B5, B6, B7, B8, B9, Ba, Bb, Bc, Bd, B0 => if x4 < (B0.length : Int) then ((r34_Calm.f k B1 B2 B3 B4 B5 B6 B7 B8 B9 Ba Bb Bc Bd B0 x4).bind fun Be => (if Be = true then (r34_Last.l0 k x3 (wrap64 (x4 + 1)) B1 B2 B3 B4 B5 B6 B7 B8 B9 Ba Bb Bc Bd B0) else (r34_Last.l0 k x4 (wrap64 (x4 + 1)) B1 B2 B3 B4 B5 B6 B7 B8 B9 Ba Bb Bc Bd B0))) else (some x3)
def r34_Last.f (k : Nat) (B4 B5 B6 B7 B8 B9 Ba Bb Bc Bd : Int) (B0 B1 : List Int) (B2 : List ByteArray) (B3 : List (S44)) : Option (Int) := (r33_Right.f k B4 B5 B6 B7 B8 B9 Ba Bb Bc Bd B0 B1 B2 B3).bind fun Be => (if Be = 0 then (r34_Last.l0 k (-1) 0 B4 B5 B6 B7 B8 B9 Ba Bb Bc Bd B0 B1 B2 B3) else (some (-1)))
set_option maxHeartbeats 8000000 in
set_option maxRecDepth 100000 in
theorem r34_Last.calls (k : Nat) (B7 B8 B9 Ba Bb Bc Bd Be Bf Bg : Int) (Bh : Option Addr) (Bi : Nat) (B2 : List Int) (Bj : Option Addr) (Bk : Nat) (B3 : List Int) (Bl : Option Addr) (Bm : Nat) (B4 : List ByteArray) (Bn : Option Addr) (Bo : Nat) (B1 : List (S44)) (r : Int) (w : World) (By : Kd.C (Kd.int .i64) w Bh B2.length B2) (Bz : B2.length ≤ Bi) (D0 : Kd.C (Kd.int .i64) w Bj B3.length B3) (D1 : B3.length ≤ Bk) (D2 : Kd.C Kd.string w Bl B4.length B4) (D3 : B4.length ≤ Bm) (D4 : Kd.C k44 w Bn B1.length B1) (D5 : B1.length ≤ Bo) (h : r34_Last.f k B7 B8 B9 Ba Bb Bc Bd Be Bf Bg B2 B3 B4 B1 = some r) :
  Calls Try.prog 31 #[.agg #[.int .i64 B7, .int .i64 B8, .int .i64 B9, .int .i64 Ba, .int .i64 Bb, .int .i64 Bc, .int .i64 Bd, .int .i64 Be, .int .i64 Bf, .int .i64 Bg, .slice Bh B2.length Bi, .slice Bj B3.length Bk, .slice Bl B4.length Bm, .slice Bn B1.length Bo]] w fun e w' => e = .returned (.int .i64 r) ∧ Below w.heap.size w w' := by
 have Bq := am_ By
 have Br := am_ Bz
 clear By Bz
 have Bs := am_ D0
 have Bt := am_ D1
 clear D0 D1
 have Bu := am_ D2
 have Bv := am_ D3
 clear D2 D3
 have Bw := am_ D4
 have Bx := am_ D5
 clear D4 D5
 have HB := am_ (Below.refl w.heap.size w)
 have H := h
 unfold r34_Last.f at H
 clear h
 obtain ⟨D6, A2, H⟩ := bes_ H
 try dsimp only at H
 by_cases c3 : D6 = 0
 ·rw [if_pos c3] at H
  have D9 : (D6 == 0) = true := beq_iff_eq.mpr c3
  have Da : (D6 != 0) = false := bne_eq_false_iff_eq.mpr c3
  clear c3
  have H' := am_ H
  clear H
  go_enter Try.func31, Try.ntmps31
  go_wp2_with (first | ((with_reducible refine gate_load (t := 28) (x := .tmp 1) rfl ?_); refine lrg_ 28 (.tmp 1) Bp 28 (by exact B0.out) Try.underlying28 ?_) | ((with_reducible refine gate_dst (N := 1) rfl ?_); refine bxe_ 1 28 #[.int .i64 B7, .int .i64 B8, .int .i64 B9, .int .i64 Ba, .int .i64 Bb, .int .i64 Bc, .int .i64 Bd, .int .i64 Be, .int .i64 Bf, .int .i64 Bg, .slice Bh B2.length Bi, .slice Bj B3.length Bk, .slice Bl B4.length Bm, .slice Bn B1.length Bo] ?_; intro Bp hg w4 hbox hb; have B0 := am_ (hbox); have D7 := gwk_ HB hg; have B6 := D7; replace HB := bst_ HB hb; clear hb hbox hg; have Db := cells_14 B0.out; have Dc := frozen_14 B0.out) | ((with_reducible refine gate_callee (f := 13) rfl ?_); refine gom_ (some 6) Try.func13 (r33_Right.calls k B7 B8 B9 Ba Bb Bc Bd Be Bf Bg _ _ B2 _ _ B3 _ _ B4 _ _ B1 _ _ (Kd.C_below Bq.out HB.out) Br.out (Kd.C_below Bs.out HB.out) Bt.out (Kd.C_below Bu.out HB.out) Bv.out (Kd.C_below Bw.out HB.out) Bx.out A2.out) ?_; rintro e w6 ⟨rfl, hb⟩; refine ⟨_, rfl, ?_⟩; replace B0 := bkb_ B0 hb; replace HB := bst_ HB hb; (try clear hb)))
  go_loopg [3, 4] k (fun kq v3 v4 w' => ∃ (D8 : Int) (B5 : Int), v3 = .int .i64 D8 ∧ v4 = .int .i64 B5 ∧ Aside0 (r34_Last.l0 kq D8 B5 B7 B8 B9 Ba Bb Bc Bd Be Bf Bg B2 B3 B4 B1 = some r) ∧ Aside0 (kq ≤ k) ∧ Aside0 (w'.heap[Bp]? = some (.cells #[.int .i64 B7, .int .i64 B8, .int .i64 B9, .int .i64 Ba, .int .i64 Bb, .int .i64 Bc, .int .i64 Bd, .int .i64 Be, .int .i64 Bf, .int .i64 Bg, (.slice Bh B2.length Bi), (.slice Bj B3.length Bk), (.slice Bl B4.length Bm), (.slice Bn B1.length Bo)] 28 (0, 0))) ∧ Aside0 (Below w.heap.size w w'))
  case atStart => exact ⟨((-1)), (0), (by first | rfl | (simp; done) | (simp [*]; done)), (by first | rfl | (simp; done) | (simp [*]; done)), H', ⟨Nat.le_refl _⟩, ⟨by (with_reducible repeat (first | apply kn_ | apply kd_ | apply ka_)); exact B0.out⟩, ⟨by repeat (first | (with_reducible first | exact HB.out | apply ba_ | apply bn_ | apply bd_ | refine bs_ ?_ B6.out) | exact HB.out)⟩⟩
  case round =>
   clear H'
   try clear c1
   try clear p2
   try clear c3
   try clear D9
   try clear Da
   try clear hcz5_0 hcz5_1 hcz5_2 hcz5_3 hcz5_4 hcz5_5 hcz5_6 hcz5_7 hcz5_8 hcz5_9 hcz5_10 hcz5_11 hcz5_12 hcz5_13
   try clear hfz5_0 hfz5_1 hfz5_2 hfz5_3 hfz5_4 hfz5_5 hfz5_6 hfz5_7 hfz5_8 hfz5_9 hfz5_10 hfz5_11 hfz5_12 hfz5_13
   obtain ⟨D8, B5, rfl, rfl, HA, Dd, B0, HB⟩ := hrel
   cases gk with
   | zero => exact absurd HA.out (by simp [r34_Last.l0])
   | succ k1 =>
    have H := HA.out
    clear HA
    simp only [r34_Last.l0] at H
    by_cases c7 : B5 < (B1.length : Int)
    ·rw [if_pos c7] at H
     have De : decide (B5 < (B1.length : Int)) = true := decide_eq_true c7
     clear c7
     obtain ⟨Df, A8, H⟩ := bes_ H
     try dsimp only at H
     by_cases c9 : Df = true
     subst c9
     rw [if_pos rfl] at H
     rotate_left
     replace c9 := Bool.eq_false_iff.mpr c9
     subst c9
     rw [if_neg (show ¬ (false = true) by decide)] at H
     rotate_left
     all_goals
      have H' := am_ H
      clear H
      have Di := cells_14 B0.out
      have Dj := frozen_14 B0.out
      go_wp2_with (first | ((with_reducible refine gate_load (t := 28) (x := .tmp 1) rfl ?_); refine lrg_ 28 (.tmp 1) Bp 28 (by exact B0.out) Try.underlying28 ?_) | ((with_reducible refine gate_callee (f := 29) rfl ?_); refine gom_ (some 17) Try.func29 (r34_Calm.calls k1 B7 B8 B9 Ba Bb Bc Bd Be Bf Bg _ _ B2 _ _ B3 _ _ B4 _ _ B1 B5 _ _ (Kd.C_below Bq.out HB.out) Br.out (Kd.C_below Bs.out HB.out) Bt.out (Kd.C_below Bu.out HB.out) Bv.out (Kd.C_below Bw.out HB.out) Bx.out A8.out) ?_; rintro e w11 ⟨rfl, hb⟩; refine ⟨_, rfl, ?_⟩; replace B0 := bkb_ B0 hb; replace HB := bst_ HB hb; (try clear hb)))
      go_roundg k1
      case measure => have := Dd.out; omega
     ·case rel => exact ⟨(D8), (wrap64 (B5 + 1)), (by first | rfl | (simp; done) | (simp [*]; done)), (by first | rfl | (simp; done) | (simp [*]; done)), H', ⟨by have := Dd.out; omega⟩, ⟨by (with_reducible repeat (first | apply kn_ | apply kd_ | apply ka_)); exact B0.out⟩, ⟨by repeat (first | (with_reducible first | exact HB.out | apply ba_ | apply bn_ | apply bd_ | refine bs_ ?_ B6.out) | exact HB.out)⟩⟩
     ·case rel => exact ⟨(B5), (wrap64 (B5 + 1)), (by first | rfl | (simp; done) | (simp [*]; done)), (by first | rfl | (simp; done) | (simp [*]; done)), H', ⟨by have := Dd.out; omega⟩, ⟨by (with_reducible repeat (first | apply kn_ | apply kd_ | apply ka_)); exact B0.out⟩, ⟨by repeat (first | (with_reducible first | exact HB.out | apply ba_ | apply bn_ | apply bd_ | refine bs_ ?_ B6.out) | exact HB.out)⟩⟩
    ·rw [if_neg c7] at H
     have De : decide (B5 < (B1.length : Int)) = false := decide_eq_false c7
     clear c7
     obtain rfl := Option.some.inj H
     have Dk := cells_14 B0.out
     have Dl := frozen_14 B0.out
     go_wp2
     go_ret
     exact ⟨by first | rfl | (simp [*] <;> rfl), by repeat (first | (with_reducible first | exact HB.out | apply ba_ | apply bn_ | apply bd_ | refine bs_ ?_ B6.out) | exact HB.out)⟩
 ·rw [if_neg c3] at H
  have D9 : (D6 == 0) = false := beq_eq_false_iff_ne.mpr c3
  have Da : (D6 != 0) = true := bne_iff_ne.mpr c3
  obtain rfl := Option.some.inj H
  go_enter Try.func31, Try.ntmps31
  go_wp2_with (first | ((with_reducible refine gate_load (t := 28) (x := .tmp 1) rfl ?_); refine lrg_ 28 (.tmp 1) Bp 28 (by exact B0.out) Try.underlying28 ?_) | ((with_reducible refine gate_dst (N := 1) rfl ?_); refine bxe_ 1 28 #[.int .i64 B7, .int .i64 B8, .int .i64 B9, .int .i64 Ba, .int .i64 Bb, .int .i64 Bc, .int .i64 Bd, .int .i64 Be, .int .i64 Bf, .int .i64 Bg, .slice Bh B2.length Bi, .slice Bj B3.length Bk, .slice Bl B4.length Bm, .slice Bn B1.length Bo] ?_; intro Bp hg w15 hbox hb; have B0 := am_ (hbox); have D7 := gwk_ HB hg; have B6 := D7; replace HB := bst_ HB hb; clear hb hbox hg; have Dg := cells_14 B0.out; have Dh := frozen_14 B0.out) | ((with_reducible refine gate_callee (f := 13) rfl ?_); refine gom_ (some 6) Try.func13 (r33_Right.calls k B7 B8 B9 Ba Bb Bc Bd Be Bf Bg _ _ B2 _ _ B3 _ _ B4 _ _ B1 _ _ (Kd.C_below Bq.out HB.out) Br.out (Kd.C_below Bs.out HB.out) Bt.out (Kd.C_below Bu.out HB.out) Bv.out (Kd.C_below Bw.out HB.out) Bx.out A2.out) ?_; rintro e w17 ⟨rfl, hb⟩; refine ⟨_, rfl, ?_⟩; replace B0 := bkb_ B0 hb; replace HB := bst_ HB hb; (try clear hb)))
  go_ret
  exact ⟨by first | rfl | (simp [*] <;> rfl), by repeat (first | (with_reducible first | exact HB.out | apply ba_ | apply bn_ | apply bd_ | refine bs_ ?_ B6.out) | exact HB.out)⟩
end Go.Proofs.Ythdoghhmooodjaa.Gn
namespace Go.Proofs.Ythdoghhmooodjaa.Gn
open Go.RowKit Go.Proofs.YthdoghhmooodjaaW.PrintWords Go.Proofs.YthdoghhmooodjaaW.PrintLast Go.Proofs.YthdoghhmooodjaaW.PrintMore
attribute [local go_sem] max2_int min2_int max_two min_two max_three min_three max_four min_four   -- for this text's walks alone
set_option linter.unusedVariables false
set_option linter.unusedSimpArgs false
def r03_Length.f (k : Nat) (B3 B0 B1 B4 B5 B6 B7 B8 B9 Ba : Int) (B2 : List Int) : Option (Int) := (r03_Plain.f k B3 B0 B1 B4 B5 B6 B7 B8 B9 Ba B2).bind fun Bb => (if Bb = 0 then (some (wrap64 ((wrap64 (3 * (wrap64 (B0 + 1)))) * B1))) else (some 0))
set_option maxHeartbeats 8000000 in
set_option maxRecDepth 100000 in
theorem r03_Length.calls (k : Nat) (B4 B5 B6 B7 B8 B9 Ba Bb Bc Bd : Int) (B2 : Option Addr) (B3 : Nat) (B1 : List Int) (r : Int) (w : World) (Be : Kd.C (Kd.int .i64) w B2 B1.length B1) (Bf : B1.length ≤ B3) (h : r03_Length.f k B4 B5 B6 B7 B8 B9 Ba Bb Bc Bd B1 = some r) :
  Calls Try.prog 93 #[.agg #[.int .i64 B4, .int .i64 B5, .int .i64 B6, .int .i64 B7, .int .i64 B8, .int .i64 B9, .int .i64 Ba, .int .i64 Bb, .int .i64 Bc, .int .i64 Bd, .slice B2 B1.length B3]] w fun e w' => e = .returned (.int .i64 r) ∧ Below w.heap.size w w' := by
 have Bo := Try.underlying24
 have Bg := am_ Be
 have Bh := am_ Bf
 clear Be Bf
 have HB := am_ (Below.refl w.heap.size w)
 have H := h
 unfold r03_Length.f at H
 clear h
 obtain ⟨Bi, A2, H⟩ := bes_ H
 try dsimp only at H
 by_cases c3 : Bi = 0
 ·rw [if_pos c3] at H
  have Bm : (Bi == 0) = true := beq_iff_eq.mpr c3
  have Bn : (Bi != 0) = false := bne_eq_false_iff_eq.mpr c3
  clear c3
  obtain rfl := Option.some.inj H
  go_enter Try.func93, Try.ntmps93
  go_wp2_with (first | ((with_reducible refine gate_dst (N := 1) rfl ?_); refine bxe_ 1 24 #[.int .i64 B4, .int .i64 B5, .int .i64 B6, .int .i64 B7, .int .i64 B8, .int .i64 B9, .int .i64 Ba, .int .i64 Bb, .int .i64 Bc, .int .i64 Bd, .slice B2 B1.length B3] ?_; intro Bl hg w4 hbox hb; have B0 := am_ (hbox); have Bj := gwk_ HB hg; have Bk := Bj; replace HB := bst_ HB hb; clear hb hbox hg; have Bp := cells_11 B0.out; have Bq := frozen_11 B0.out) | ((with_reducible refine gate_callee (f := 56) rfl ?_); refine gom_ (some 4) Try.func56 (r03_Plain.calls k B4 B5 B6 B7 B8 B9 Ba Bb Bc Bd _ _ B1 _ _ (Kd.C_below Bg.out HB.out) Bh.out A2.out) ?_; rintro e w6 ⟨rfl, hb⟩; refine ⟨_, rfl, ?_⟩; replace B0 := bkb_ B0 hb; replace HB := bst_ HB hb; (try clear hb); have Br := cells_11 B0.out; have Bs := frozen_11 B0.out))
  go_ret
  exact ⟨by first | rfl | (simp [*] <;> rfl), by repeat (first | (with_reducible first | exact HB.out | apply ba_ | apply bn_ | apply bd_ | refine bs_ ?_ Bk.out) | exact HB.out)⟩
 ·rw [if_neg c3] at H
  have Bm : (Bi == 0) = false := beq_eq_false_iff_ne.mpr c3
  have Bn : (Bi != 0) = true := bne_iff_ne.mpr c3
  obtain rfl := Option.some.inj H
  go_enter Try.func93, Try.ntmps93
  go_wp2_with (first | ((with_reducible refine gate_dst (N := 1) rfl ?_); refine bxe_ 1 24 #[.int .i64 B4, .int .i64 B5, .int .i64 B6, .int .i64 B7, .int .i64 B8, .int .i64 B9, .int .i64 Ba, .int .i64 Bb, .int .i64 Bc, .int .i64 Bd, .slice B2 B1.length B3] ?_; intro Bl hg w8 hbox hb; have B0 := am_ (hbox); have Bj := gwk_ HB hg; have Bk := Bj; replace HB := bst_ HB hb; clear hb hbox hg; have Bt := cells_11 B0.out; have Bu := frozen_11 B0.out) | ((with_reducible refine gate_callee (f := 56) rfl ?_); refine gom_ (some 4) Try.func56 (r03_Plain.calls k B4 B5 B6 B7 B8 B9 Ba Bb Bc Bd _ _ B1 _ _ (Kd.C_below Bg.out HB.out) Bh.out A2.out) ?_; rintro e w10 ⟨rfl, hb⟩; refine ⟨_, rfl, ?_⟩; replace B0 := bkb_ B0 hb; replace HB := bst_ HB hb; (try clear hb)))
  go_ret
  exact ⟨by first | rfl | (simp [*] <;> rfl), by repeat (first | (with_reducible first | exact HB.out | apply ba_ | apply bn_ | apply bd_ | refine bs_ ?_ Bk.out) | exact HB.out)⟩
end Go.Proofs.Ythdoghhmooodjaa.Gn
namespace Go.Proofs.Ythdoghhmooodjaa.Gn
open Go.RowKit Go.Proofs.YthdoghhmooodjaaW.PrintWords Go.Proofs.YthdoghhmooodjaaW.PrintLast Go.Proofs.YthdoghhmooodjaaW.PrintMore
attribute [local go_sem] max2_int min2_int max_two min_two max_three min_three max_four min_four   -- for this text's walks alone
set_option linter.unusedVariables false
set_option linter.unusedSimpArgs false
def r04_Settle.f (k : Nat) (B2 B3 B4 B1 B5 B6 B7 B8 B9 Ba : Int) (B0 : List Int) : Option (Int) := (r03_Plain.f k B2 B3 B4 B1 B5 B6 B7 B8 B9 Ba B0).bind fun Bb => (if Bb = 0 then ((r03_Length.f k B2 B3 B4 B1 B5 B6 B7 B8 B9 Ba B0).bind fun Bc => (some (wrap64 ((wrap64 (1 + (wrap64 (4 * Bc)))) + (wrap64 (2 * B1)))))) else (some 0))
def r04_Settle.T3 : Bool × List (List Nat × List Nat) := (true, [([], []), ([0], [0]), ([1], [1]), ([2], [2]), ([], []), ([4], [4]), ([5], [5]), ([3, 6], [3, 6]), ([7, 1, 0, 1, 2, 3, 4, 5, 6, 7], [7])])
def r04_Settle.B3 : List Nat := [0, 1, 3, 7, 0, 16, 48, 127, 255]
theorem r04_Settle.tab3 : rtab .any (opsOf Try.f59 3) = r04_Settle.T3 := by kernel_rfl
theorem r04_Settle.bits3 : waitsOk r04_Settle.T3.2 r04_Settle.B3 = true := by kernel_rfl
set_option maxHeartbeats 8000000 in
set_option maxRecDepth 100000 in
theorem r04_Settle.calls (k : Nat) (B3 B4 B5 B6 B7 B8 B9 Ba Bb Bc : Int) (Bd : Option Addr) (Be : Nat) (B2 : List Int) (r : Int) (w : World) (Bh : Kd.C (Kd.int .i64) w Bd B2.length B2) (Bi : B2.length ≤ Be) (h : r04_Settle.f k B3 B4 B5 B6 B7 B8 B9 Ba Bb Bc B2 = some r) :
  Calls Try.prog 59 #[.agg #[.int .i64 B3, .int .i64 B4, .int .i64 B5, .int .i64 B6, .int .i64 B7, .int .i64 B8, .int .i64 B9, .int .i64 Ba, .int .i64 Bb, .int .i64 Bc, .slice Bd B2.length Be]] w fun e w' => e = .returned (.int .i64 r) ∧ Below w.heap.size w w' := by
 have Bq := Try.underlying24
 have Bf := am_ Bh
 have Bg := am_ Bi
 clear Bh Bi
 have HB := am_ (Below.refl w.heap.size w)
 have H := h
 unfold r04_Settle.f at H
 clear h
 obtain ⟨Bj, A2, H⟩ := bes_ H
 try dsimp only at H
 by_cases c3 : Bj = 0
 ·rw [if_pos c3] at H
  have Bm : (Bj == 0) = true := beq_iff_eq.mpr c3
  have Bn : (Bj != 0) = false := bne_eq_false_iff_eq.mpr c3
  clear c3
  obtain ⟨Br, A4, H⟩ := bes_ H
  try dsimp only at H
  obtain rfl := Option.some.inj H
  go_enter Try.func59, Try.ntmps59
  try go_wp2_with (first | ((with_reducible refine gate_dst (N := 1) rfl ?_); refine bxe_ 1 24 #[.int .i64 B3, .int .i64 B4, .int .i64 B5, .int .i64 B6, .int .i64 B7, .int .i64 B8, .int .i64 B9, .int .i64 Ba, .int .i64 Bb, .int .i64 Bc, .slice Bd B2.length Be] ?_; intro B1 hg w5 hbox hb; have B0 := am_ (hbox); have Bk := gwk_ HB hg; have Bl := Bk; replace HB := bst_ HB hb; clear hb hbox hg; have Bs := cells_11 B0.out; have Bt := frozen_11 B0.out) | ((with_reducible refine gate_callee (f := 56) rfl ?_); refine gom_ (some 4) Try.func56 (r03_Plain.calls k B3 B4 B5 B6 B7 B8 B9 Ba Bb Bc _ _ B2 _ _ (Kd.C_below Bf.out HB.out) Bg.out A2.out) ?_; rintro e w7 ⟨rfl, hb⟩; refine ⟨_, rfl, ?_⟩; replace B0 := bkb_ B0 hb; replace HB := bst_ HB hb; (try clear hb)))
  replace B0 := am_ (blk_drew B0.out)
  replace HB := am_ (below_drew1 HB.out)
  refine start_ (n := 9) (S := fun w' => ce_ w' B1 0 (.int .i64 B3) ∧ ce_ w' B1 1 (.int .i64 B4) ∧ ce_ w' B1 2 (.int .i64 B5) ∧ ce_ w' B1 3 (.int .i64 B6) ∧ ce_ w' B1 4 (.int .i64 B7) ∧ ce_ w' B1 5 (.int .i64 B8) ∧ ce_ w' B1 6 (.int .i64 B9) ∧ ce_ w' B1 7 (.int .i64 Ba) ∧ ce_ w' B1 8 (.int .i64 Bb) ∧ ce_ w' B1 9 (.int .i64 Bc) ∧ ce_ w' B1 10 (.slice Bd B2.length Be)) (ds := []) #[false, false, false, false, false, false, false, false, false] (by kernel_rfl) rfl rfl ⟨(blk_cell B0.out 0).trans rfl, (blk_cell B0.out 1).trans rfl, (blk_cell B0.out 2).trans rfl, (blk_cell B0.out 3).trans rfl, (blk_cell B0.out 4).trans rfl, (blk_cell B0.out 5).trans rfl, (blk_cell B0.out 6).trans rfl, (blk_cell B0.out 7).trans rfl, (blk_cell B0.out 8).trans rfl, (blk_cell B0.out 9).trans rfl, (blk_cell B0.out 10).trans rfl⟩ (fun hHeld => ?_); refine with_tabW r04_Settle.tab3 r04_Settle.bits3 (fun HT_ HW_ => ?_)
  generalize w7.drew = w8 at B0 HB hHeld ⊢
  refine pur_ 4 (some 10) rfl rfl (any_of HT_.out (by kernel_rfl)) ?_
  refine tak_ 0 (some 6) rfl rfl (take_ofW HT_.out HW_.out (by kernel_rfl)) hHeld ?_ (by rintro w' ⟨s0, s1, s2, s3, s4, s5, s6, s7, s8, s9, s10⟩; go_simp; with_reducible rfl)
  refine tak_ 5 (some 11) rfl rfl (take_ofW HT_.out HW_.out (by kernel_rfl)) hHeld ?_ (by rintro w' ⟨s0, s1, s2, s3, s4, s5, s6, s7, s8, s9, s10⟩; go_simp; with_reducible rfl)
  refine pur_ 6 (some 12) rfl rfl (any_of HT_.out (by kernel_rfl)) ?_
  refine oon_ 1 (some 7) rfl rfl (one_of HT_.out (by kernel_rfl)) (fun K hK => ?_)
  refine gos_ Try.func93 (r03_Length.calls k B3 B4 B5 B6 B7 B8 B9 Ba Bb Bc _ _ B2 _ _ (Kd.C_below Bf.out HB.out) Bg.out A4.out) ?_
  rintro e w9 ⟨rfl, hb⟩
  refine ⟨_, rfl, ?_⟩
  replace B0 := bkb_ B0 hb
  replace HB := bst_ HB hb
  (try clear hb)
  (try clear hb2)
  (try clear hk)
  (try clear hi)
  refine hK.out _ _ (cells_11 B0.out) (fun hHeld => ?_)
  clear hK K
  refine nor_ 7 ?_
  refine pur_ 2 (some 8) rfl rfl (any_of HT_.out (by kernel_rfl)) ?_
  refine pur_ 3 (some 9) rfl rfl (any_of HT_.out (by kernel_rfl)) ?_
  refine pur_ 7 (some 13) rfl rfl (any_of HT_.out (by kernel_rfl)) ?_
  refine pur_ 8 (some 2) rfl rfl (any_of HT_.out (by kernel_rfl)) ?_
  refine done_ (done_of HT_.out (by kernel_rfl)) ?_
  try go_wp2
  go_ret
  exact ⟨by first | rfl | (simp [*] <;> rfl), by repeat (first | (with_reducible first | exact HB.out | apply ba_ | apply bn_ | apply bd_ | refine bs_ ?_ Bl.out) | exact HB.out)⟩
 ·rw [if_neg c3] at H
  have Bm : (Bj == 0) = false := beq_eq_false_iff_ne.mpr c3
  have Bn : (Bj != 0) = true := bne_iff_ne.mpr c3
  obtain rfl := Option.some.inj H
  go_enter Try.func59, Try.ntmps59
  go_wp2_with (first | ((with_reducible refine gate_dst (N := 1) rfl ?_); refine bxe_ 1 24 #[.int .i64 B3, .int .i64 B4, .int .i64 B5, .int .i64 B6, .int .i64 B7, .int .i64 B8, .int .i64 B9, .int .i64 Ba, .int .i64 Bb, .int .i64 Bc, .slice Bd B2.length Be] ?_; intro B1 hg w10 hbox hb; have B0 := am_ (hbox); have Bk := gwk_ HB hg; have Bl := Bk; replace HB := bst_ HB hb; clear hb hbox hg; have Bo := cells_11 B0.out; have Bp := frozen_11 B0.out) | ((with_reducible refine gate_callee (f := 56) rfl ?_); refine gom_ (some 4) Try.func56 (r03_Plain.calls k B3 B4 B5 B6 B7 B8 B9 Ba Bb Bc _ _ B2 _ _ (Kd.C_below Bf.out HB.out) Bg.out A2.out) ?_; rintro e w12 ⟨rfl, hb⟩; refine ⟨_, rfl, ?_⟩; replace B0 := bkb_ B0 hb; replace HB := bst_ HB hb; (try clear hb)))
  go_ret
  exact ⟨by first | rfl | (simp [*] <;> rfl), by repeat (first | (with_reducible first | exact HB.out | apply ba_ | apply bn_ | apply bd_ | refine bs_ ?_ Bl.out) | exact HB.out)⟩
end Go.Proofs.Ythdoghhmooodjaa.Gn
namespace Go.Proofs.Ythdoghhmooodjaa.Gn
open Go.RowKit Go.Proofs.YthdoghhmooodjaaW.PrintWords Go.Proofs.YthdoghhmooodjaaW.PrintLast Go.Proofs.YthdoghhmooodjaaW.PrintMore
attribute [local go_sem] max2_int min2_int max_two min_two max_three min_three max_four min_four   -- for this text's walks alone
set_option linter.unusedVariables false
set_option linter.unusedSimpArgs false
def r34_Settled.f (k : Nat) (B4 B5 B6 B7 B8 B9 Ba Bb Bc Bd : Int) (B0 B1 : List Int) (B2 : List ByteArray) (B3 : List (S44)) : Option (Int) := (r33_Right.f k B4 B5 B6 B7 B8 B9 Ba Bb Bc Bd B0 B1 B2 B3).bind fun Be => (if Be = 0 then ((r34_Last.f k B4 B5 B6 B7 B8 B9 Ba Bb Bc Bd B0 B1 B2 B3).bind fun Bf => ((r04_Settle.f k B4 B5 B6 B7 B8 B9 Ba Bb Bc Bd B0).bind fun Bg => (some (wrap64 (Bf + Bg))))) else (some 0))
set_option maxHeartbeats 8000000 in
set_option maxRecDepth 100000 in
theorem r34_Settled.calls (k : Nat) (B6 B7 B8 B9 Ba Bb Bc Bd Be Bf : Int) (Bi : Option Addr) (Bj : Nat) (B2 : List Int) (Bk : Option Addr) (Bl : Nat) (B3 : List Int) (Bm : Option Addr) (Bn : Nat) (B4 : List ByteArray) (Bo : Option Addr) (Bp : Nat) (B5 : List (S44)) (r : Int) (w : World) (Bw : Kd.C (Kd.int .i64) w Bi B2.length B2) (Bx : B2.length ≤ Bj) (By : Kd.C (Kd.int .i64) w Bk B3.length B3) (Bz : B3.length ≤ Bl) (D0 : Kd.C Kd.string w Bm B4.length B4) (D1 : B4.length ≤ Bn) (D2 : Kd.C k44 w Bo B5.length B5) (D3 : B5.length ≤ Bp) (h : r34_Settled.f k B6 B7 B8 B9 Ba Bb Bc Bd Be Bf B2 B3 B4 B5 = some r) :
  Calls Try.prog 33 #[.agg #[.int .i64 B6, .int .i64 B7, .int .i64 B8, .int .i64 B9, .int .i64 Ba, .int .i64 Bb, .int .i64 Bc, .int .i64 Bd, .int .i64 Be, .int .i64 Bf, .slice Bi B2.length Bj, .slice Bk B3.length Bl, .slice Bm B4.length Bn, .slice Bo B5.length Bp]] w fun e w' => e = .returned (.int .i64 r) ∧ Below w.heap.size w w' := by
 have Dg := Try.underlying24
 have Bg := am_ Bw
 have Bh := am_ Bx
 clear Bw Bx
 have Bq := am_ By
 have Br := am_ Bz
 clear By Bz
 have Bs := am_ D0
 have Bt := am_ D1
 clear D0 D1
 have Bu := am_ D2
 have Bv := am_ D3
 clear D2 D3
 have HB := am_ (Below.refl w.heap.size w)
 have H := h
 unfold r34_Settled.f at H
 clear h
 obtain ⟨D4, A2, H⟩ := bes_ H
 try dsimp only at H
 by_cases c3 : D4 = 0
 ·rw [if_pos c3] at H
  have D7 : (D4 == 0) = true := beq_iff_eq.mpr c3
  have D8 : (D4 != 0) = false := bne_eq_false_iff_eq.mpr c3
  clear c3
  obtain ⟨D9, A4, H⟩ := bes_ H
  try dsimp only at H
  replace H := Option.bind_eq_some_iff.mp H
  obtain ⟨Da, Df, H⟩ := H
  replace H : (some (wrap64 (D9 + Da))) = some r := H
  have A5 := am_ Df
  clear Df
  obtain rfl := Option.some.inj H
  go_enter Try.func33, Try.ntmps33
  try go_wp2_with (first | ((with_reducible refine gate_load (t := 28) (x := .tmp 1) rfl ?_); refine lrg_ 28 (.tmp 1) B1 28 (by exact B0.out) Try.underlying28 ?_) | ((with_reducible refine gate_dst (N := 1) rfl ?_); refine bxe_ 1 28 #[.int .i64 B6, .int .i64 B7, .int .i64 B8, .int .i64 B9, .int .i64 Ba, .int .i64 Bb, .int .i64 Bc, .int .i64 Bd, .int .i64 Be, .int .i64 Bf, .slice Bi B2.length Bj, .slice Bk B3.length Bl, .slice Bm B4.length Bn, .slice Bo B5.length Bp] ?_; intro B1 hg w6 hbox hb; have B0 := am_ (hbox); have D5 := gwk_ HB hg; have D6 := D5; replace HB := bst_ HB hb; clear hb hbox hg; have Db := cells_14 B0.out; have Dc := frozen_14 B0.out) | ((with_reducible refine gate_callee (f := 13) rfl ?_); refine gom_ (some 4) Try.func13 (r33_Right.calls k B6 B7 B8 B9 Ba Bb Bc Bd Be Bf _ _ B2 _ _ B3 _ _ B4 _ _ B5 _ _ (Kd.C_below Bg.out HB.out) Bh.out (Kd.C_below Bq.out HB.out) Br.out (Kd.C_below Bs.out HB.out) Bt.out (Kd.C_below Bu.out HB.out) Bv.out A2.out) ?_; rintro e w8 ⟨rfl, hb⟩; refine ⟨_, rfl, ?_⟩; replace B0 := bkb_ B0 hb; replace HB := bst_ HB hb; (try clear hb)))
  replace B0 := am_ (blk_drew B0.out)
  replace HB := am_ (below_drew1 HB.out)
  refine start_ (n := 7) (S := fun w' => ce_ w' B1 0 (.int .i64 B6) ∧ ce_ w' B1 1 (.int .i64 B7) ∧ ce_ w' B1 2 (.int .i64 B8) ∧ ce_ w' B1 3 (.int .i64 B9) ∧ ce_ w' B1 4 (.int .i64 Ba) ∧ ce_ w' B1 5 (.int .i64 Bb) ∧ ce_ w' B1 6 (.int .i64 Bc) ∧ ce_ w' B1 7 (.int .i64 Bd) ∧ ce_ w' B1 8 (.int .i64 Be) ∧ ce_ w' B1 9 (.int .i64 Bf) ∧ ce_ w' B1 10 (.slice Bi B2.length Bj) ∧ ce_ w' B1 11 (.slice Bk B3.length Bl) ∧ ce_ w' B1 12 (.slice Bm B4.length Bn) ∧ ce_ w' B1 13 (.slice Bo B5.length Bp)) (ds := []) #[false, false, false, false, false, false, false] (by kernel_rfl) rfl rfl ⟨(blk_cell B0.out 0).trans rfl, (blk_cell B0.out 1).trans rfl, (blk_cell B0.out 2).trans rfl, (blk_cell B0.out 3).trans rfl, (blk_cell B0.out 4).trans rfl, (blk_cell B0.out 5).trans rfl, (blk_cell B0.out 6).trans rfl, (blk_cell B0.out 7).trans rfl, (blk_cell B0.out 8).trans rfl, (blk_cell B0.out 9).trans rfl, (blk_cell B0.out 10).trans rfl, (blk_cell B0.out 11).trans rfl, (blk_cell B0.out 12).trans rfl, (blk_cell B0.out 13).trans rfl⟩ (fun hHeld => ?_)
  generalize w8.drew = w9 at B0 HB hHeld ⊢
  refine pur_ 2 (some 8) rfl rfl (by kernel_rfl) ?_
  refine tak_ 0 (some 6) rfl rfl (by kernel_rfl) hHeld ?_ (by rintro w' ⟨s0, s1, s2, s3, s4, s5, s6, s7, s8, s9, s10, s11, s12, s13⟩; (first | (refine load_cells_14 (ty := 28) (x := .tmp 1) (g := B1) ?hlo_ ?hx_ Try.underlying28 ?hd_ ?hi_ s0 s1 s2 s3 s4 s5 s6 s7 s8 s9 s10 s11 s12 s13; (case hlo_ => rfl); (case hx_ => rfl); (case hd_ => rfl); (case hi_ => kernel_rfl)) | (go_simp; with_reducible rfl)))
  refine tak_ 3 (some 9) rfl rfl (by kernel_rfl) hHeld ?_ (by rintro w' ⟨s0, s1, s2, s3, s4, s5, s6, s7, s8, s9, s10, s11, s12, s13⟩; (first | (refine load_cells_14 (ty := 28) (x := .tmp 1) (g := B1) ?hlo_ ?hx_ Try.underlying28 ?hd_ ?hi_ s0 s1 s2 s3 s4 s5 s6 s7 s8 s9 s10 s11 s12 s13; (case hlo_ => rfl); (case hx_ => rfl); (case hd_ => rfl); (case hi_ => kernel_rfl)) | (go_simp; with_reducible rfl)))
  refine oon_ 1 (some 7) rfl rfl (by kernel_rfl) (fun K hK => ?_)
  refine gos_ Try.func31 (r34_Last.calls k B6 B7 B8 B9 Ba Bb Bc Bd Be Bf _ _ B2 _ _ B3 _ _ B4 _ _ B5 _ _ (Kd.C_below Bg.out HB.out) Bh.out (Kd.C_below Bq.out HB.out) Br.out (Kd.C_below Bs.out HB.out) Bt.out (Kd.C_below Bu.out HB.out) Bv.out A4.out) ?_
  rintro e w10 ⟨rfl, hb⟩
  refine ⟨_, rfl, ?_⟩
  replace B0 := bkb_ B0 hb
  replace HB := bst_ HB hb
  (try clear hb)
  (try clear hb2)
  (try clear hk)
  (try clear hi)
  refine hK.out _ _ (cells_14 B0.out) (fun hHeld => ?_)
  clear hK K
  refine nor_ 7 ?_
  refine oon_ 4 (some 10) rfl rfl (by kernel_rfl) (fun K hK => ?_)
  refine gos_ Try.func59 (r04_Settle.calls k B6 B7 B8 B9 Ba Bb Bc Bd Be Bf _ _ B2 _ _ (Kd.C_below Bg.out HB.out) Bh.out A5.out) ?_
  rintro e w11 ⟨rfl, hb⟩
  refine ⟨_, rfl, ?_⟩
  replace B0 := bkb_ B0 hb
  replace HB := bst_ HB hb
  (try clear hb)
  (try clear hb2)
  (try clear hk)
  (try clear hi)
  refine hK.out _ _ (cells_14 B0.out) (fun hHeld => ?_)
  clear hK K
  refine nor_ 10 ?_
  refine pur_ 5 (some 11) rfl rfl (by kernel_rfl) ?_
  refine pur_ 6 (some 2) rfl rfl (by kernel_rfl) ?_
  refine done_ (by kernel_rfl) ?_
  try go_wp2
  go_ret
  exact ⟨by first | rfl | (simp [*] <;> rfl), by repeat (first | (with_reducible first | exact HB.out | apply ba_ | apply bn_ | apply bd_ | refine bs_ ?_ D6.out) | exact HB.out)⟩
 ·rw [if_neg c3] at H
  have D7 : (D4 == 0) = false := beq_eq_false_iff_ne.mpr c3
  have D8 : (D4 != 0) = true := bne_iff_ne.mpr c3
  obtain rfl := Option.some.inj H
  go_enter Try.func33, Try.ntmps33
  go_wp2_with (first | ((with_reducible refine gate_load (t := 28) (x := .tmp 1) rfl ?_); refine lrg_ 28 (.tmp 1) B1 28 (by exact B0.out) Try.underlying28 ?_) | ((with_reducible refine gate_dst (N := 1) rfl ?_); refine bxe_ 1 28 #[.int .i64 B6, .int .i64 B7, .int .i64 B8, .int .i64 B9, .int .i64 Ba, .int .i64 Bb, .int .i64 Bc, .int .i64 Bd, .int .i64 Be, .int .i64 Bf, .slice Bi B2.length Bj, .slice Bk B3.length Bl, .slice Bm B4.length Bn, .slice Bo B5.length Bp] ?_; intro B1 hg w12 hbox hb; have B0 := am_ (hbox); have D5 := gwk_ HB hg; have D6 := D5; replace HB := bst_ HB hb; clear hb hbox hg; have Dd := cells_14 B0.out; have De := frozen_14 B0.out) | ((with_reducible refine gate_callee (f := 13) rfl ?_); refine gom_ (some 4) Try.func13 (r33_Right.calls k B6 B7 B8 B9 Ba Bb Bc Bd Be Bf _ _ B2 _ _ B3 _ _ B4 _ _ B5 _ _ (Kd.C_below Bg.out HB.out) Bh.out (Kd.C_below Bq.out HB.out) Br.out (Kd.C_below Bs.out HB.out) Bt.out (Kd.C_below Bu.out HB.out) Bv.out A2.out) ?_; rintro e w14 ⟨rfl, hb⟩; refine ⟨_, rfl, ?_⟩; replace B0 := bkb_ B0 hb; replace HB := bst_ HB hb; (try clear hb)))
  go_ret
  exact ⟨by first | rfl | (simp [*] <;> rfl), by repeat (first | (with_reducible first | exact HB.out | apply ba_ | apply bn_ | apply bd_ | refine bs_ ?_ D6.out) | exact HB.out)⟩
end Go.Proofs.Ythdoghhmooodjaa.Gn
