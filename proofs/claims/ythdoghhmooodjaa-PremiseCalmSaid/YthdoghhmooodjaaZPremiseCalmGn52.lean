import Derived.Test.YthdoghhmooodjaaZPremiseCalmGn0
import Derived.Test.YthdoghhmooodjaaZPremiseCalmGn1
import Derived.Test.YthdoghhmooodjaaZPremiseCalmGn35
namespace Go.Proofs.Ythdoghhmooodjaa.Gn
open Go.RowKit Go.Proofs.YthdoghhmooodjaaW.PrintWords Go.Proofs.YthdoghhmooodjaaW.PrintLast Go.Proofs.YthdoghhmooodjaaW.PrintMore
attribute [local go_sem] max2_int min2_int max_two min_two max_three min_three max_four min_four   -- for this text's walks alone
set_option linter.unusedVariables false
set_option linter.unusedSimpArgs false
def r34_Holds.f (k : Nat) (B5 B4 B6 B7 B8 B9 Ba Bb Bc Bd : Int) (B1 B0 : List Int) (B2 : List ByteArray) (B3 : List (S44)) : Option (Int) := (r33_Right.f k B5 B4 B6 B7 B8 B9 Ba Bb Bc Bd B1 B0 B2 B3).bind fun Be => (if Be = 0 then (if (B0.length : Int) > B4 then (some 7) else (some 0)) else ((r33_Right.f k B5 B4 B6 B7 B8 B9 Ba Bb Bc Bd B1 B0 B2 B3).bind fun Bf => (some Bf)))
set_option maxHeartbeats 8000000 in
set_option maxRecDepth 100000 in
theorem r34_Holds.calls (k : Nat) (B6 B5 B7 B8 B9 Ba Bb Bc Bd Be : Int) (Bn : Option Addr) (Bo : Nat) (B2 : List Int) (Bp : Option Addr) (Bq : Nat) (B1 : List Int) (Br : Option Addr) (Bs : Nat) (B3 : List ByteArray) (Bt : Option Addr) (Bu : Nat) (B4 : List (S44)) (r : Int) (w : World) (Bv : Kd.C (Kd.int .i64) w Bn B2.length B2) (Bw : B2.length ≤ Bo) (Bx : Kd.C (Kd.int .i64) w Bp B1.length B1) (By : B1.length ≤ Bq) (Bz : Kd.C Kd.string w Br B3.length B3) (D0 : B3.length ≤ Bs) (D1 : Kd.C k44 w Bt B4.length B4) (D2 : B4.length ≤ Bu) (h : r34_Holds.f k B6 B5 B7 B8 B9 Ba Bb Bc Bd Be B2 B1 B3 B4 = some r) :
  Calls Try.prog 27 #[.agg #[.int .i64 B6, .int .i64 B5, .int .i64 B7, .int .i64 B8, .int .i64 B9, .int .i64 Ba, .int .i64 Bb, .int .i64 Bc, .int .i64 Bd, .int .i64 Be, .slice Bn B2.length Bo, .slice Bp B1.length Bq, .slice Br B3.length Bs, .slice Bt B4.length Bu]] w fun e w' => e = .returned (.int .i64 r) ∧ Below w.heap.size w w' := by
 have Bf := am_ Bv
 have Bg := am_ Bw
 clear Bv Bw
 have Bh := am_ Bx
 have Bi := am_ By
 clear Bx By
 have Bj := am_ Bz
 have Bk := am_ D0
 clear Bz D0
 have Bl := am_ D1
 have Bm := am_ D2
 clear D1 D2
 have HB := am_ (Below.refl w.heap.size w)
 have H := h
 unfold r34_Holds.f at H
 clear h
 obtain ⟨D3, A2, H⟩ := bes_ H
 try dsimp only at H
 by_cases c3 : D3 = 0
 ·rw [if_pos c3] at H
  have Db : (D3 == 0) = true := beq_iff_eq.mpr c3
  have Dc : (D3 != 0) = false := bne_eq_false_iff_eq.mpr c3
  clear c3
  by_cases c4 : (B1.length : Int) > B5
  rw [if_pos c4] at H
  have Dd : decide (B5 < (B1.length : Int)) = true := decide_eq_true c4
  rotate_left
  rw [if_neg c4] at H
  have Dd : decide (B5 < (B1.length : Int)) = false := decide_eq_false c4
  rotate_left
  all_goals
   clear c4
   obtain rfl := Option.some.inj H
   go_enter Try.func27, Try.ntmps27
   go_wp2_with (first | ((with_reducible refine gate_load (t := 28) (x := .tmp 1) rfl ?_); refine lrg_ 28 (.tmp 1) D4 28 (by exact B0.out) Try.underlying28 ?_) | ((with_reducible refine gate_dst (N := 1) rfl ?_); refine bxe_ 1 28 #[.int .i64 B6, .int .i64 B5, .int .i64 B7, .int .i64 B8, .int .i64 B9, .int .i64 Ba, .int .i64 Bb, .int .i64 Bc, .int .i64 Bd, .int .i64 Be, .slice Bn B2.length Bo, .slice Bp B1.length Bq, .slice Br B3.length Bs, .slice Bt B4.length Bu] ?_; intro D4 hg w5 hbox hb; have B0 := am_ (hbox); have D5 := gwk_ HB hg; have D6 := D5; replace HB := bst_ HB hb; clear hb hbox hg; have De := cells_14 B0.out; have Df := frozen_14 B0.out) | ((with_reducible refine gate_callee (f := 13) rfl ?_); refine gom_ (some 4) Try.func13 (r33_Right.calls k B6 B5 B7 B8 B9 Ba Bb Bc Bd Be _ _ B2 _ _ B1 _ _ B3 _ _ B4 _ _ (Kd.C_below Bf.out HB.out) Bg.out (Kd.C_below Bh.out HB.out) Bi.out (Kd.C_below Bj.out HB.out) Bk.out (Kd.C_below Bl.out HB.out) Bm.out A2.out) ?_; rintro e w7 ⟨rfl, hb⟩; refine ⟨_, rfl, ?_⟩; replace B0 := bkb_ B0 hb; replace HB := bst_ HB hb; (try clear hb); have Dg := cells_14 B0.out; have Dh := frozen_14 B0.out))
   go_ret
   exact ⟨by first | rfl | (simp [*] <;> rfl), by repeat (first | (with_reducible first | exact HB.out | apply ba_ | apply bn_ | apply bd_ | refine bs_ ?_ D6.out) | exact HB.out)⟩
 ·rw [if_neg c3] at H
  have Db : (D3 == 0) = false := beq_eq_false_iff_ne.mpr c3
  have Dc : (D3 != 0) = true := bne_iff_ne.mpr c3
  replace H := Option.bind_eq_some_iff.mp H
  obtain ⟨Di, D7, H⟩ := H
  replace H : (some Di) = some r := H
  have Dk := am_ D7
  clear D7
  obtain rfl := Option.some.inj H
  go_enter Try.func27, Try.ntmps27
  go_wp2_with (first | ((with_reducible refine gate_load (t := 28) (x := .tmp 1) rfl ?_); refine lrg_ 28 (.tmp 1) D4 28 (by exact B0.out) Try.underlying28 ?_) | ((with_reducible refine gate_dst (N := 1) rfl ?_); refine bxe_ 1 28 #[.int .i64 B6, .int .i64 B5, .int .i64 B7, .int .i64 B8, .int .i64 B9, .int .i64 Ba, .int .i64 Bb, .int .i64 Bc, .int .i64 Bd, .int .i64 Be, .slice Bn B2.length Bo, .slice Bp B1.length Bq, .slice Br B3.length Bs, .slice Bt B4.length Bu] ?_; intro D4 hg w14 hbox hb; have B0 := am_ (hbox); have D5 := gwk_ HB hg; have D6 := D5; replace HB := bst_ HB hb; clear hb hbox hg; have Dj := cells_14 B0.out; have D8 := frozen_14 B0.out) | ((with_reducible refine gate_callee (f := 13) rfl ?_); refine gom_ (some 4) Try.func13 (r33_Right.calls k B6 B5 B7 B8 B9 Ba Bb Bc Bd Be _ _ B2 _ _ B1 _ _ B3 _ _ B4 _ _ (Kd.C_below Bf.out HB.out) Bg.out (Kd.C_below Bh.out HB.out) Bi.out (Kd.C_below Bj.out HB.out) Bk.out (Kd.C_below Bl.out HB.out) Bm.out A2.out) ?_; rintro e w16 ⟨rfl, hb⟩; refine ⟨_, rfl, ?_⟩; replace B0 := bkb_ B0 hb; replace HB := bst_ HB hb; (try clear hb); have D9 := cells_14 B0.out; have Da := frozen_14 B0.out) | ((with_reducible refine gate_callee (f := 13) rfl ?_); refine gom_ (some 7) Try.func13 (r33_Right.calls k B6 B5 B7 B8 B9 Ba Bb Bc Bd Be _ _ B2 _ _ B1 _ _ B3 _ _ B4 _ _ (Kd.C_below Bf.out HB.out) Bg.out (Kd.C_below Bh.out HB.out) Bi.out (Kd.C_below Bj.out HB.out) Bk.out (Kd.C_below Bl.out HB.out) Bm.out Dk.out) ?_; rintro e w18 ⟨rfl, hb⟩; refine ⟨_, rfl, ?_⟩; replace B0 := bkb_ B0 hb; replace HB := bst_ HB hb; (try clear hb)))
  go_ret
  exact ⟨by first | rfl | (simp [*] <;> rfl), by repeat (first | (with_reducible first | exact HB.out | apply ba_ | apply bn_ | apply bd_ | refine bs_ ?_ D6.out) | exact HB.out)⟩
end Go.Proofs.Ythdoghhmooodjaa.Gn
