import Derived.Test.YthdoghhmooodjaaZPremiseCalmGn0
import Derived.Test.YthdoghhmooodjaaZPremiseCalmGn1
import Derived.Test.YthdoghhmooodjaaZPremiseCalmGn2
import Derived.Test.YthdoghhmooodjaaZPremiseCalmGn43
import Derived.Test.YthdoghhmooodjaaZPremiseCalmGn44
import Derived.Test.YthdoghhmooodjaaZPremiseCalmGn51
import Derived.Test.YthdoghhmooodjaaZPremiseCalmGn52
import Derived.Test.YthdoghhmooodjaaZPremiseCalmGn53
namespace Go.Proofs.Ythdoghhmooodjaa.Gn
open Go.RowKit Go.Proofs.YthdoghhmooodjaaW.PrintWords Go.Proofs.YthdoghhmooodjaaW.PrintLast Go.Proofs.YthdoghhmooodjaaW.PrintMore
attribute [local go_sem] max2_int min2_int max_two min_two max_three min_three max_four min_four   -- for this text's walks alone
set_option linter.unusedVariables false
set_option linter.unusedSimpArgs false
def l34_PremiseCalm.f (k : Nat) (B4 B5 B6 B7 B8 B9 Ba Bb Bc Bd : Int) (B0 B1 : List Int) (B2 : List ByteArray) (B3 : List (S44)) (a1 : Int) : Option (Bool) := (r33_Few.f k B4 B5 B6 B7 B8 B9 Ba Bb Bc Bd B0 B1 B2 B3 2100).bind fun Be => (if Be = true then ((premise_Holds.f k B4 B5 B6 B7 B8 B9 Ba Bb Bc Bd B0 B1 B2 B3).bind fun Bf => ((r34_Holds.f k B4 B5 B6 B7 B8 B9 Ba Bb Bc Bd B0 B1 B2 B3).bind fun Bg => (if Bf = Bg then ((premise_Calm.f k B4 B5 B6 B7 B8 B9 Ba Bb Bc Bd B0 B1 B2 B3 a1).bind fun Bh => ((r34_Calm.f k B4 B5 B6 B7 B8 B9 Ba Bb Bc Bd B0 B1 B2 B3 a1).bind fun Bi => (if (Bh == Bi) = true then ((l34_known.f k).bind fun Bj => (some Bj)) else (none)))) else (none)))) else ((l34_known.f k).bind fun Bk => (some Bk)))
def l34_PremiseCalm.T3 : Bool × List (List Nat × List Nat) := (true, [([], []), ([0], [0]), ([], []), ([2, 1], [2]), ([1, 3], [1, 3]), ([4, 3], [4]), ([5], [5]), ([5], [5]), ([6, 7, 5, 5], [5, 6, 7]), ([5], [5]), ([5], [5]), ([9, 10, 8, 5], [5, 9, 10]), ([8, 11, 5], [5, 8, 11]), ([5, 12], [5, 12]), ([13, 11], [13]), ([14, 14], [14]), ([14, 15], [14, 15]), ([16, 15, 0, 1, 2, 3, 4, 5, 6, 7, 8, 9, 10, 11, 12, 13, 14, 15, 16], [16])])
def l34_PremiseCalm.B3 : List Nat := [0, 1, 0, 7, 15, 31, 63, 63, 255, 63, 63, 2047, 4095, 8191, 16383, 32767, 65535, 131071]
theorem l34_PremiseCalm.tab3 : rtab .any (opsOf Try.f7 3) = l34_PremiseCalm.T3 := by kernel_rfl
theorem l34_PremiseCalm.bits3 : waitsOk l34_PremiseCalm.T3.2 l34_PremiseCalm.B3 = true := by kernel_rfl
set_option maxHeartbeats 8000000 in
set_option maxRecDepth 100000 in
theorem l34_PremiseCalm.calls (k : Nat) (Be Bf Bg Bh Bi Bj Bk Bl Bm Bn : Int) (Bo : Option Addr) (Bp : Nat) (B2 : List Int) (Bq : Option Addr) (Br : Nat) (B3 : List Int) (Bs : Option Addr) (Bt : Nat) (B4 : List ByteArray) (Bu : Option Addr) (Bv : Nat) (B5 : List (S44)) (a1 : Int) (r : Bool) (w : World) (By : Kd.C (Kd.int .i64) w Bo B2.length B2) (Bz : B2.length ≤ Bp) (D0 : Kd.C (Kd.int .i64) w Bq B3.length B3) (D1 : B3.length ≤ Br) (D2 : Kd.C Kd.string w Bs B4.length B4) (D3 : B4.length ≤ Bt) (D4 : Kd.C k44 w Bu B5.length B5) (D5 : B5.length ≤ Bv) (h : l34_PremiseCalm.f k Be Bf Bg Bh Bi Bj Bk Bl Bm Bn B2 B3 B4 B5 a1 = some r) :
  Calls Try.prog 7 #[.agg #[.int .i64 Be, .int .i64 Bf, .int .i64 Bg, .int .i64 Bh, .int .i64 Bi, .int .i64 Bj, .int .i64 Bk, .int .i64 Bl, .int .i64 Bm, .int .i64 Bn, .slice Bo B2.length Bp, .slice Bq B3.length Br, .slice Bs B4.length Bt, .slice Bu B5.length Bv], .int .i64 a1] w fun e w' => e = .returned (.bool r) ∧ Below w.heap.size w w' := by
 have B6 := am_ By
 have B7 := am_ Bz
 clear By Bz
 have B8 := am_ D0
 have B9 := am_ D1
 clear D0 D1
 have Ba := am_ D2
 have Bb := am_ D3
 clear D2 D3
 have Bc := am_ D4
 have Bd := am_ D5
 clear D4 D5
 have HB := am_ (Below.refl w.heap.size w)
 have H := h
 unfold l34_PremiseCalm.f at H
 clear h
 obtain ⟨Dg, A3, H⟩ := bes_ H
 try dsimp only at H
 by_cases c4 : Dg = true
 ·subst c4
  rw [if_pos rfl] at H
  obtain ⟨D6, A5, H⟩ := bes_ H
  try dsimp only at H
  obtain ⟨D7, A6, H⟩ := bes_ H
  try dsimp only at H
  by_cases c7 : D6 = D7
  ·rw [if_pos c7] at H
   have Dh : (D6 == D7) = true := beq_iff_eq.mpr c7
   have Di : (D6 != D7) = false := bne_eq_false_iff_eq.mpr c7
   clear c7
   obtain ⟨Bw, A8, H⟩ := bes_ H
   try dsimp only at H
   obtain ⟨Bx, A9, H⟩ := bes_ H
   try dsimp only at H
   by_cases D8 : (Bw == Bx) = true
   ·rw [if_pos D8] at H
    have Db : (Bw == Bx) = true := D8
    (try (have Dc : decide (Bw = Bx) = true := by simpa using D8))
    (try (have Dd : (Bw == Bx) = true := by simpa using D8))
    clear D8
    replace H := Option.bind_eq_some_iff.mp H
    obtain ⟨Dj, De, H⟩ := H
    replace H : (some Dj) = some r := H
    have Dq := am_ De
    clear De
    obtain rfl := Option.some.inj H
    go_enter Try.func7, Try.ntmps7
    try go_wp2_with (first | ((with_reducible refine gate_load (t := 28) (x := .tmp 2) rfl ?_); refine lrg_ 28 (.tmp 2) B1 28 (by exact B0.out) Try.underlying28 ?_) | ((with_reducible refine gate_dst (N := 2) rfl ?_); refine bxe_ 2 28 #[.int .i64 Be, .int .i64 Bf, .int .i64 Bg, .int .i64 Bh, .int .i64 Bi, .int .i64 Bj, .int .i64 Bk, .int .i64 Bl, .int .i64 Bm, .int .i64 Bn, .slice Bo B2.length Bp, .slice Bq B3.length Br, .slice Bs B4.length Bt, .slice Bu B5.length Bv] ?_; intro B1 hg w12 hbox hb; have B0 := am_ (hbox); have D9 := gwk_ HB hg; have Da := D9; replace HB := bst_ HB hb; clear hb hbox hg; have Dk := cells_14 B0.out; have Dl := frozen_14 B0.out) | ((with_reducible refine gate_callee (f := 10) rfl ?_); refine gom_ (some 6) Try.func10 (r33_Few.calls k Be Bf Bg Bh Bi Bj Bk Bl Bm Bn _ _ B2 _ _ B3 _ _ B4 _ _ B5 2100 _ _ (Kd.C_below B6.out HB.out) B7.out (Kd.C_below B8.out HB.out) B9.out (Kd.C_below Ba.out HB.out) Bb.out (Kd.C_below Bc.out HB.out) Bd.out A3.out) ?_; rintro e w14 ⟨rfl, hb⟩; refine ⟨_, rfl, ?_⟩; replace B0 := bkb_ B0 hb; replace HB := bst_ HB hb; (try clear hb)))
    replace B0 := am_ (blk_drew B0.out)
    replace HB := am_ (below_drew1 HB.out)
    refine start_ (n := 18) (S := fun w' => ce_ w' B1 0 (.int .i64 Be) ∧ ce_ w' B1 1 (.int .i64 Bf) ∧ ce_ w' B1 2 (.int .i64 Bg) ∧ ce_ w' B1 3 (.int .i64 Bh) ∧ ce_ w' B1 4 (.int .i64 Bi) ∧ ce_ w' B1 5 (.int .i64 Bj) ∧ ce_ w' B1 6 (.int .i64 Bk) ∧ ce_ w' B1 7 (.int .i64 Bl) ∧ ce_ w' B1 8 (.int .i64 Bm) ∧ ce_ w' B1 9 (.int .i64 Bn) ∧ ce_ w' B1 10 (.slice Bo B2.length Bp) ∧ ce_ w' B1 11 (.slice Bq B3.length Br) ∧ ce_ w' B1 12 (.slice Bs B4.length Bt) ∧ ce_ w' B1 13 (.slice Bu B5.length Bv)) (ds := []) #[false, false, false, false, false, false, false, false, false, false, false, false, false, false, false, false, false, false] (by kernel_rfl) rfl rfl ⟨(blk_cell B0.out 0).trans rfl, (blk_cell B0.out 1).trans rfl, (blk_cell B0.out 2).trans rfl, (blk_cell B0.out 3).trans rfl, (blk_cell B0.out 4).trans rfl, (blk_cell B0.out 5).trans rfl, (blk_cell B0.out 6).trans rfl, (blk_cell B0.out 7).trans rfl, (blk_cell B0.out 8).trans rfl, (blk_cell B0.out 9).trans rfl, (blk_cell B0.out 10).trans rfl, (blk_cell B0.out 11).trans rfl, (blk_cell B0.out 12).trans rfl, (blk_cell B0.out 13).trans rfl⟩ (fun hHeld => ?_); refine with_tabW l34_PremiseCalm.tab3 l34_PremiseCalm.bits3 (fun HT_ HW_ => ?_)
    generalize w14.drew = w15 at B0 HB hHeld ⊢
    refine tak_ 0 (some 9) rfl rfl (take_ofW HT_.out HW_.out (by kernel_rfl)) hHeld ?_ (by rintro w' ⟨s0, s1, s2, s3, s4, s5, s6, s7, s8, s9, s10, s11, s12, s13⟩; (first | (refine load_cells_14 (ty := 28) (x := .tmp 2) (g := B1) ?hlo_ ?hx_ Try.underlying28 ?hd_ ?hi_ s0 s1 s2 s3 s4 s5 s6 s7 s8 s9 s10 s11 s12 s13; (case hlo_ => rfl); (case hx_ => rfl); (case hd_ => rfl); (case hi_ => kernel_rfl)) | (go_simp; with_reducible rfl)))
    refine tak_ 2 (some 11) rfl rfl (take_ofW HT_.out HW_.out (by kernel_rfl)) hHeld ?_ (by rintro w' ⟨s0, s1, s2, s3, s4, s5, s6, s7, s8, s9, s10, s11, s12, s13⟩; (first | (refine load_cells_14 (ty := 28) (x := .tmp 2) (g := B1) ?hlo_ ?hx_ Try.underlying28 ?hd_ ?hi_ s0 s1 s2 s3 s4 s5 s6 s7 s8 s9 s10 s11 s12 s13; (case hlo_ => rfl); (case hx_ => rfl); (case hd_ => rfl); (case hi_ => kernel_rfl)) | (go_simp; with_reducible rfl)))
    refine oon_ 1 (some 10) rfl rfl (one_of HT_.out (by kernel_rfl)) (fun K hK => ?_)
    refine gos_ Try.func26 (premise_Holds.calls k Be Bf Bg Bh Bi Bj Bk Bl Bm Bn _ _ B2 _ _ B3 _ _ B4 _ _ B5 _ _ (Kd.C_below B6.out HB.out) B7.out (Kd.C_below B8.out HB.out) B9.out (Kd.C_below Ba.out HB.out) Bb.out (Kd.C_below Bc.out HB.out) Bd.out A5.out) ?_
    rintro e w16 ⟨rfl, hb⟩
    refine ⟨_, rfl, ?_⟩
    replace B0 := bkb_ B0 hb
    replace HB := bst_ HB hb
    (try clear hb)
    (try clear hb2)
    (try clear hk)
    (try clear hi)
    refine hK.out _ _ (cells_14 B0.out) (fun hHeld => ?_)
    clear hK K
    refine nor_ 10 ?_
    refine oon_ 3 (some 12) rfl rfl (one_of HT_.out (by kernel_rfl)) (fun K hK => ?_)
    refine gos_ Try.func27 (r34_Holds.calls k Be Bf Bg Bh Bi Bj Bk Bl Bm Bn _ _ B2 _ _ B3 _ _ B4 _ _ B5 _ _ (Kd.C_below B6.out HB.out) B7.out (Kd.C_below B8.out HB.out) B9.out (Kd.C_below Ba.out HB.out) Bb.out (Kd.C_below Bc.out HB.out) Bd.out A6.out) ?_
    rintro e w17 ⟨rfl, hb⟩
    refine ⟨_, rfl, ?_⟩
    replace B0 := bkb_ B0 hb
    replace HB := bst_ HB hb
    (try clear hb)
    (try clear hb2)
    (try clear hk)
    (try clear hi)
    refine hK.out _ _ (cells_14 B0.out) (fun hHeld => ?_)
    clear hK K
    refine nor_ 12 ?_
    refine pur_ 4 (some 13) rfl rfl (any_of HT_.out (by kernel_rfl)) ?_
    refine pur_ 5 (some 14) rfl rfl (any_of HT_.out (by kernel_rfl)) ?_
    refine pur_ 7 (some 16) rfl rfl (any_of HT_.out (by kernel_rfl)) ?_
    refine pur_ 10 (some 19) rfl rfl (any_of HT_.out (by kernel_rfl)) ?_
    refine tak_ 6 (some 15) rfl rfl (take_ofW HT_.out HW_.out (by kernel_rfl)) hHeld ?_ (by rintro w' ⟨s0, s1, s2, s3, s4, s5, s6, s7, s8, s9, s10, s11, s12, s13⟩; (first | (refine load_cells_14 (ty := 28) (x := .tmp 2) (g := B1) ?hlo_ ?hx_ Try.underlying28 ?hd_ ?hi_ s0 s1 s2 s3 s4 s5 s6 s7 s8 s9 s10 s11 s12 s13; (case hlo_ => rfl); (case hx_ => rfl); (case hd_ => rfl); (case hi_ => kernel_rfl)) | (go_simp; with_reducible rfl)))
    refine tak_ 9 (some 18) rfl rfl (take_ofW HT_.out HW_.out (by kernel_rfl)) hHeld ?_ (by rintro w' ⟨s0, s1, s2, s3, s4, s5, s6, s7, s8, s9, s10, s11, s12, s13⟩; (first | (refine load_cells_14 (ty := 28) (x := .tmp 2) (g := B1) ?hlo_ ?hx_ Try.underlying28 ?hd_ ?hi_ s0 s1 s2 s3 s4 s5 s6 s7 s8 s9 s10 s11 s12 s13; (case hlo_ => rfl); (case hx_ => rfl); (case hd_ => rfl); (case hi_ => kernel_rfl)) | (go_simp; with_reducible rfl)))
    refine oon_ 8 (some 17) rfl rfl (one_of HT_.out (by kernel_rfl)) (fun K hK => ?_)
    refine gos_ Try.func28 (premise_Calm.calls k Be Bf Bg Bh Bi Bj Bk Bl Bm Bn _ _ B2 _ _ B3 _ _ B4 _ _ B5 a1 _ _ (Kd.C_below B6.out HB.out) B7.out (Kd.C_below B8.out HB.out) B9.out (Kd.C_below Ba.out HB.out) Bb.out (Kd.C_below Bc.out HB.out) Bd.out A8.out) ?_
    rintro e w18 ⟨rfl, hb⟩
    refine ⟨_, rfl, ?_⟩
    replace B0 := bkb_ B0 hb
    replace HB := bst_ HB hb
    (try clear hb)
    (try clear hb2)
    (try clear hk)
    (try clear hi)
    refine hK.out _ _ (cells_14 B0.out) (fun hHeld => ?_)
    clear hK K
    refine nor_ 17 ?_
    refine oon_ 11 (some 20) rfl rfl (one_of HT_.out (by kernel_rfl)) (fun K hK => ?_)
    refine gos_ Try.func29 (r34_Calm.calls k Be Bf Bg Bh Bi Bj Bk Bl Bm Bn _ _ B2 _ _ B3 _ _ B4 _ _ B5 a1 _ _ (Kd.C_below B6.out HB.out) B7.out (Kd.C_below B8.out HB.out) B9.out (Kd.C_below Ba.out HB.out) Bb.out (Kd.C_below Bc.out HB.out) Bd.out A9.out) ?_
    rintro e w19 ⟨rfl, hb⟩
    refine ⟨_, rfl, ?_⟩
    replace B0 := bkb_ B0 hb
    replace HB := bst_ HB hb
    (try clear hb)
    (try clear hb2)
    (try clear hk)
    (try clear hi)
    refine hK.out _ _ (cells_14 B0.out) (fun hHeld => ?_)
    clear hK K
    refine nor_ 20 ?_
    refine pur_ 12 (some 21) rfl rfl (any_of HT_.out (by kernel_rfl)) ?_
    refine pur_ 13 (some 22) rfl rfl (any_of HT_.out (by kernel_rfl)) ?_
    refine pur_ 14 (some 23) rfl rfl (any_of HT_.out (by kernel_rfl)) ?_
    refine oon_ 15 (some 24) rfl rfl (one_of HT_.out (by kernel_rfl)) (fun K hK => ?_)
    refine gos_ Try.func25 (l34_known.calls k  _ _ Dq.out) ?_
    rintro e w20 ⟨rfl, hb⟩
    refine ⟨_, rfl, ?_⟩
    replace B0 := bkb_ B0 hb
    replace HB := bst_ HB hb
    (try clear hb)
    (try clear hb2)
    (try clear hk)
    (try clear hi)
    refine hK.out _ _ (cells_14 B0.out) (fun hHeld => ?_)
    clear hK K
    refine nor_ 24 ?_
    refine pur_ 16 (some 25) rfl rfl (any_of HT_.out (by kernel_rfl)) ?_
    refine pur_ 17 (some 4) rfl rfl (any_of HT_.out (by kernel_rfl)) ?_
    refine done_ (done_of HT_.out (by kernel_rfl)) ?_
    try go_wp2
    go_ret
    exact ⟨by first | rfl | (simp [*] <;> rfl), by repeat (first | (with_reducible first | exact HB.out | apply ba_ | apply bn_ | apply bd_ | refine bs_ ?_ Da.out) | exact HB.out)⟩
   ·rw [if_neg D8] at H
    have Db : (Bw == Bx) = false := by simpa using D8
    (try (have Dc : decide (Bw = Bx) = false := by simpa using D8))
    (try (have Dd : (Bw == Bx) = false := by simpa using D8))
    (try (have Dp : ¬ (Bw = Bx) := by simpa using D8))
    clear D8
    exact absurd H (by simp)
  ·rw [if_neg c7] at H
   have Dh : (D6 == D7) = false := beq_eq_false_iff_ne.mpr c7
   have Di : (D6 != D7) = true := bne_iff_ne.mpr c7
   exact absurd H (by simp)
 ·replace c4 := Bool.eq_false_iff.mpr c4
  subst c4
  rw [if_neg (show ¬ (false = true) by decide)] at H
  replace H := Option.bind_eq_some_iff.mp H
  obtain ⟨Dm, Df, H⟩ := H
  replace H : (some Dm) = some r := H
  have Dr := am_ Df
  clear Df
  obtain rfl := Option.some.inj H
  go_enter Try.func7, Try.ntmps7
  go_wp2_with (first | ((with_reducible refine gate_load (t := 28) (x := .tmp 2) rfl ?_); refine lrg_ 28 (.tmp 2) B1 28 (by exact B0.out) Try.underlying28 ?_) | ((with_reducible refine gate_dst (N := 2) rfl ?_); refine bxe_ 2 28 #[.int .i64 Be, .int .i64 Bf, .int .i64 Bg, .int .i64 Bh, .int .i64 Bi, .int .i64 Bj, .int .i64 Bk, .int .i64 Bl, .int .i64 Bm, .int .i64 Bn, .slice Bo B2.length Bp, .slice Bq B3.length Br, .slice Bs B4.length Bt, .slice Bu B5.length Bv] ?_; intro B1 hg w22 hbox hb; have B0 := am_ (hbox); have D9 := gwk_ HB hg; have Da := D9; replace HB := bst_ HB hb; clear hb hbox hg; have Dn := cells_14 B0.out; have Do := frozen_14 B0.out) | ((with_reducible refine gate_callee (f := 10) rfl ?_); refine gom_ (some 6) Try.func10 (r33_Few.calls k Be Bf Bg Bh Bi Bj Bk Bl Bm Bn _ _ B2 _ _ B3 _ _ B4 _ _ B5 2100 _ _ (Kd.C_below B6.out HB.out) B7.out (Kd.C_below B8.out HB.out) B9.out (Kd.C_below Ba.out HB.out) Bb.out (Kd.C_below Bc.out HB.out) Bd.out A3.out) ?_; rintro e w24 ⟨rfl, hb⟩; refine ⟨_, rfl, ?_⟩; replace B0 := bkb_ B0 hb; replace HB := bst_ HB hb; (try clear hb)) | ((with_reducible refine gate_callee (f := 25) rfl ?_); refine gom_ (some 8) Try.func25 (l34_known.calls k  _ _ Dr.out) ?_; rintro e w25 ⟨rfl, hb⟩; refine ⟨_, rfl, ?_⟩; replace B0 := bkb_ B0 hb; replace HB := bst_ HB hb; (try clear hb)))
  go_ret
  exact ⟨by first | rfl | (simp [*] <;> rfl), by repeat (first | (with_reducible first | exact HB.out | apply ba_ | apply bn_ | apply bd_ | refine bs_ ?_ Da.out) | exact HB.out)⟩
end Go.Proofs.Ythdoghhmooodjaa.Gn
