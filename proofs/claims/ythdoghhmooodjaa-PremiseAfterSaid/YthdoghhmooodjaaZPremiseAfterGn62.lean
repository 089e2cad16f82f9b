import Derived.Test.YthdoghhmooodjaaZPremiseAfterGn0
import Derived.Test.YthdoghhmooodjaaZPremiseAfterGn1
import Derived.Test.YthdoghhmooodjaaZPremiseAfterGn2
import Derived.Test.YthdoghhmooodjaaZPremiseAfterGn35
import Derived.Test.YthdoghhmooodjaaZPremiseAfterGn43
import Derived.Test.YthdoghhmooodjaaZPremiseAfterGn44
import Derived.Test.YthdoghhmooodjaaZPremiseAfterGn48
import Derived.Test.YthdoghhmooodjaaZPremiseAfterGn49
import Derived.Test.YthdoghhmooodjaaZPremiseAfterGn51
namespace Go.Proofs.Ythdoghhmooodjaa.Gn
open Go.RowKit Go.Proofs.YthdoghhmooodjaaW.PrintWords Go.Proofs.YthdoghhmooodjaaW.PrintLast Go.Proofs.YthdoghhmooodjaaW.PrintMore
attribute [local go_sem] max2_int min2_int max_two min_two max_three min_three max_four min_four   -- for this text's walks alone
set_option linter.unusedVariables false
set_option linter.unusedSimpArgs false
mutual
def l34_PremiseAfter.j0 : Nat → ByteArray → Bool → Int → Int → Int → Int → Int → Int → Int → Int → Int → Int → List Int → List Int → List ByteArray → List (S44) → Option (Bool)
 | 0, _, _, _, _, _, _, _, _, _, _, _, _, _, _, _, _ => none
 | k + 1, x1, D7, B0, B1, B2, B3, B4, B5, B6, B7, B8, B9, Ba, Bb, Bc, Bd => if D7 = true then ((l34_known.f k).bind fun Bv => (some Bv)) else ((premise_Last.f k B0 B1 B2 B3 B4 B5 B6 B7 B8 B9 Ba Bb Bc Bd).bind fun Be => (if Be < (-1) then (l34_PremiseAfter.j1 k x1 Be true B0 B1 B2 B3 B4 B5 B6 B7 B8 B9 Ba Bb Bc Bd) else (if Be ≥ (Bd.length : Int) then (l34_PremiseAfter.j1 k x1 Be true B0 B1 B2 B3 B4 B5 B6 B7 B8 B9 Ba Bb Bc Bd) else (if Be ≥ 0 then ((premise_Calm.f k B0 B1 B2 B3 B4 B5 B6 B7 B8 B9 Ba Bb Bc Bd Be).bind fun Bw => (l34_PremiseAfter.j1 k x1 Be Bw B0 B1 B2 B3 B4 B5 B6 B7 B8 B9 Ba Bb Bc Bd)) else (l34_PremiseAfter.j1 k x1 Be false B0 B1 B2 B3 B4 B5 B6 B7 B8 B9 Ba Bb Bc Bd)))))
def l34_PremiseAfter.j1 : Nat → ByteArray → Int → Bool → Int → Int → Int → Int → Int → Int → Int → Int → Int → Int → List Int → List Int → List ByteArray → List (S44) → Option (Bool)
 | 0, _, _, _, _, _, _, _, _, _, _, _, _, _, _, _, _, _ => none
 | k + 1, x1, x5, D8, B0, B1, B2, B3, B4, B5, B6, B7, B8, B9, Ba, Bb, Bc, Bd => if D8 = true then (none) else (l34_PremiseAfter.l0 k x1 x5 (wrap64 (x5 + 1)) B0 B1 B2 B3 B4 B5 B6 B7 B8 B9 Ba Bb Bc Bd)
def l34_PremiseAfter.l0 : Nat → ByteArray → Int → Int → Int → Int → Int → Int → Int → Int → Int → Int → Int → Int → List Int → List Int → List ByteArray → List (S44) → Option (Bool)
 | 0, _, _, _, _, _, _, _, _, _, _, _, _, _, _, _, _, _ => none
 | k + 1, x1, x5, x6, B0, B1, B2, B3, B4, B5, B6, B7, B8, B9, Ba, Bb, Bc, Bd => if x6 < (Bd.length : Int) then ((premise_Calm.f k B0 B1 B2 B3 B4 B5 B6 B7 B8 B9 Ba Bb Bc Bd x6).bind fun Bx => (if Bx = true then (l34_PremiseAfter.l0 k x1 x5 (wrap64 (x6 + 1)) B0 B1 B2 B3 B4 B5 B6 B7 B8 B9 Ba Bb Bc Bd) else (none))) else (if ([] : List (S44)).length + Bd.length < 977343669134 then ((some (([] : List (S44)) ++ Bd : List (S44))).bind fun Bu => (if Bu.length < 977343669134 then ((some (Bu ++ [(⟨([] : List Int), ([] : List Int), ([] : List (S74)), ([] : List (S48)), ([] : List (S74)), ([] : List (S81))⟩ : S44)] : List (S44))).bind fun Bf => ((premise_Last.f k B0 B1 B2 B3 B4 B5 B6 B7 B8 B9 Ba Bb Bc Bf).bind fun By => (if By = x5 then ((premise_All.f k B0 B1 B2 B3 B4 B5 B6 B7 B8 B9 Ba Bb Bc Bf).bind fun Bz => ((premise_All.f k B0 B1 B2 B3 B4 B5 B6 B7 B8 B9 Ba Bb Bc Bd).bind fun D0 => (if Bz = D0 then ((premise_Settled.f k B0 B1 B2 B3 B4 B5 B6 B7 B8 B9 Ba Bb Bc Bf).bind fun D1 => ((premise_Settled.f k B0 B1 B2 B3 B4 B5 B6 B7 B8 B9 Ba Bb Bc Bd).bind fun D2 => (if D1 = D2 then ((premise_Holds.f k B0 B1 B2 B3 B4 B5 B6 B7 B8 B9 Ba Bb Bc Bf).bind fun D3 => ((premise_Holds.f k B0 B1 B2 B3 B4 B5 B6 B7 B8 B9 Ba Bb Bc Bd).bind fun D4 => (l34_PremiseAfter.j3 k x1 (D3 != D4) B0 B1 B2 B3 B4 B5 B6 B7 B8 B9 Ba Bb Bc Bd B0 B1 B2 B3 B4 B5 B6 B7 B8 B9 Ba Bb Bc Bf))) else (l34_PremiseAfter.j3 k x1 true B0 B1 B2 B3 B4 B5 B6 B7 B8 B9 Ba Bb Bc Bd B0 B1 B2 B3 B4 B5 B6 B7 B8 B9 Ba Bb Bc Bf)))) else (l34_PremiseAfter.j3 k x1 true B0 B1 B2 B3 B4 B5 B6 B7 B8 B9 Ba Bb Bc Bd B0 B1 B2 B3 B4 B5 B6 B7 B8 B9 Ba Bb Bc Bf)))) else (l34_PremiseAfter.j3 k x1 true B0 B1 B2 B3 B4 B5 B6 B7 B8 B9 Ba Bb Bc Bd B0 B1 B2 B3 B4 B5 B6 B7 B8 B9 Ba Bb Bc Bf)))) else (none))) else (none))
def l34_PremiseAfter.j3 : Nat → ByteArray → Bool → Int → Int → Int → Int → Int → Int → Int → Int → Int → Int → List Int → List Int → List ByteArray → List (S44) → Int → Int → Int → Int → Int → Int → Int → Int → Int → Int → List Int → List Int → List ByteArray → List (S44) → Option (Bool)
 | 0, _, _, _, _, _, _, _, _, _, _, _, _, _, _, _, _, _, _, _, _, _, _, _, _, _, _, _, _, _, _ => none
 | k + 1, x1, D9, B0, B1, B2, B3, B4, B5, B6, B7, B8, B9, Ba, Bb, Bc, Bd, Bh, Bi, Bj, Bk, Bl, Bm, Bn, Bo, Bp, Bq, Br, Bs, Bt, Bg => if D9 = true then (none) else (if 0 ≤ (Bd.length : Int) then (if (Bd.length : Int) < (Bg.length : Int) then ((premise_Last.f k Bh Bi Bj Bk Bl Bm Bn Bo Bp Bq Br Bs Bt (Bg.set ((Bd.length : Int) : Int).toNat (⟨([] : List Int), ([] : List Int), ([] : List (S74)), (([(⟨0, x1⟩ : S48)] : List (S48))), ([] : List (S74)), ([] : List (S81))⟩ : S44))).bind fun D5 => (if D5 = (Bd.length : Int) then ((l34_known.f k).bind fun D6 => (some D6)) else (none))) else (none)) else (none))
end
def l34_PremiseAfter.f (k : Nat) (B4 B5 B6 B7 B8 B9 Ba Bb Bc Bd : Int) (B0 B1 : List Int) (B2 : List ByteArray) (B3 : List (S44)) (a1 : ByteArray) : Option (Bool) := (r33_Few.f k B4 B5 B6 B7 B8 B9 Ba Bb Bc Bd B0 B1 B2 B3 400).bind fun Be => (if Be = true then ((r33_Right.f k B4 B5 B6 B7 B8 B9 Ba Bb Bc Bd B0 B1 B2 B3).bind fun Bf => (if Bf = 0 then (l34_PremiseAfter.j0 k a1 (decide ((a1.size : Int) > 8000)) B4 B5 B6 B7 B8 B9 Ba Bb Bc Bd B0 B1 B2 B3) else (l34_PremiseAfter.j0 k a1 true B4 B5 B6 B7 B8 B9 Ba Bb Bc Bd B0 B1 B2 B3))) else (l34_PremiseAfter.j0 k a1 true B4 B5 B6 B7 B8 B9 Ba Bb Bc Bd B0 B1 B2 B3))
def l34_PremiseAfter.T16 : Bool × List (List Nat × List Nat) := (true, [([], []), ([0], [0]), ([], []), ([1, 2], [1, 2]), ([3, 1], [3]), ([4], [4]), ([5, 4, 4], [4, 5]), ([4], [4]), ([7, 6, 4], [4, 7]), ([6, 8, 4], [4, 6, 8]), ([4, 9], [4, 9]), ([10, 8], [10]), ([11], [11]), ([12, 11, 11], [11, 12]), ([11], [11]), ([14, 13, 11], [11, 14]), ([13, 15, 11], [11, 13, 15]), ([11, 16], [11, 16]), ([17, 15], [17]), ([18], [18]), ([19, 18, 18], [18, 19]), ([18], [18]), ([21, 20, 18], [18, 21]), ([20, 22, 18], [18, 20, 22]), ([18, 23], [18, 23])])
def l34_PremiseAfter.B16 : List Nat := [0, 1, 0, 7, 15, 31, 63, 31, 255, 511, 1023, 2047, 4095, 8191, 4095, 32767, 65535, 131071, 262143, 524287, 1048575, 524287, 4194303, 8388607, 16777215]
theorem l34_PremiseAfter.tab16 : rtab .any (opsOf Try.f9 16) = l34_PremiseAfter.T16 := by kernel_rfl
theorem l34_PremiseAfter.bits16 : waitsOk l34_PremiseAfter.T16.2 l34_PremiseAfter.B16 = true := by kernel_rfl
def l34_PremiseAfter.T19 : Bool × List (List Nat × List Nat) := (true, [([], []), ([0], [0]), ([], []), ([2], [2]), ([3], [3]), ([1, 4], [1, 4]), ([5, 1], [5]), ([6, 6], [6]), ([6, 7], [6, 7]), ([8, 7, 0, 1, 2, 3, 4, 5, 6, 7, 8], [8])])
def l34_PremiseAfter.B19 : List Nat := [0, 1, 0, 4, 12, 31, 63, 127, 255, 511]
theorem l34_PremiseAfter.tab19 : rtab .any (opsOf Try.f9 19) = l34_PremiseAfter.T19 := by kernel_rfl
theorem l34_PremiseAfter.bits19 : waitsOk l34_PremiseAfter.T19.2 l34_PremiseAfter.B19 = true := by kernel_rfl
set_option maxHeartbeats 8000000 in
set_option maxRecDepth 100000 in
theorem l34_PremiseAfter.callsV (k : Nat) (Ba Bb Bc Bd Be Bf Bg Bh Bi Bj : Int) (Bm : Option Addr) (Bn : Nat) (B6 : List Int) (Bo : Option Addr) (Bp : Nat) (B7 : List Int) (Bq : Option Addr) (Br : Nat) (B8 : List ByteArray) (Bs : Nat → Prop) (Bt : Option Addr) (Bu : Nat) (B4 : List (S44)) (a1 : ByteArray) (r : Bool) (w : World) (E3 : Kd.C (Kd.int .i64) w Bm B6.length B6) (E4 : B6.length ≤ Bn) (E5 : Kd.C (Kd.int .i64) w Bo B7.length B7) (E6 : B7.length ≤ Bp) (E7 : Kd.C Kd.string w Bq B8.length B8) (E8 : B8.length ≤ Br) (Fh : Kd.V k44 44 w w.heap.size (fun k_ => Bs k_) (.slice Bt B4.length Bu) B4) (h : l34_PremiseAfter.f k Ba Bb Bc Bd Be Bf Bg Bh Bi Bj B6 B7 B8 B4 a1 = some r) :
  Calls Try.prog 9 #[.agg #[.int .i64 Ba, .int .i64 Bb, .int .i64 Bc, .int .i64 Bd, .int .i64 Be, .int .i64 Bf, .int .i64 Bg, .int .i64 Bh, .int .i64 Bi, .int .i64 Bj, .slice Bm B6.length Bn, .slice Bo B7.length Bp, .slice Bq B8.length Br, .slice Bt B4.length Bu], .string a1] w fun e w' => e = .returned (.bool r) ∧ Below w.heap.size w w' := by
 have Md := Try.underlying44
 have Me := Try.underlying48
 have Bx := am_ E3
 have By := am_ E4
 clear E3 E4
 have Bz := am_ E5
 have D0 := am_ E6
 clear E5 E6
 have D1 := am_ E7
 have D2 := am_ E8
 clear E7 E8
 have Bv := am_ (show Kd.V k44 44 w w.heap.size (fun k_ => (Bs k_ ∨ w.heap.size ≤ k_)) (.slice Bt B4.length Bu) B4 from Kd.V_mono Fh (fun k_ hk => .inl hk))
 have HB := am_ (Below.refl w.heap.size w)
 have H := h
 unfold l34_PremiseAfter.f at H
 clear h
 have Gy := am_ H
 clear H
 go_enter Try.func9, Try.ntmps9
 go_upto_region 1 with (first | ((with_reducible refine gate_load (t := 28) (x := .tmp 2) rfl ?_); refine lrg_ 28 (.tmp 2) B5 28 (by (with_reducible repeat (first | apply kn_ | apply kd_ | apply ka_)); with_reducible exact B1.out) Try.underlying28 ?_) | ((with_reducible refine gate_load (t := 28) (x := .tmp 8) rfl ?_); refine lrg_ 28 (.tmp 8) B3 28 (by (with_reducible repeat (first | apply kn_ | apply kd_ | apply ka_)); with_reducible exact B2.out) Try.underlying28 ?_) | ((with_reducible refine gate_dst (N := 2) rfl ?_); (try (refine gate_guard (by rfl) ?_; dsimp only)); refine bxe_ 2 28 #[.int .i64 Ba, .int .i64 Bb, .int .i64 Bc, .int .i64 Bd, .int .i64 Be, .int .i64 Bf, .int .i64 Bg, .int .i64 Bh, .int .i64 Bi, .int .i64 Bj, .slice Bm B6.length Bn, .slice Bo B7.length Bp, .slice Bq B8.length Br, .slice Bt B4.length Bu] ?_; intro B5 hg w4 hbox hb; replace Bv := am_ (Kd.V_below (Kd.V_elderB (by (with_reducible repeat (first | apply Kd.V_alloc | apply Kd.V_drewN | apply Kd.V_drew)); exact Bv.out) B5 (Nat.le_of_eq hg.symm)) hb); have B1 := am_ (hbox); have G5 := gwk_ HB hg; have D4 := G5; replace HB := bst_ HB hb; clear hb hbox hg))
 (try simp only [Act.put, zs_])
 go_cut [21] (fun v21 wc => ∃ (kq : Nat) (Dt : Bool), v21 = .bool Dt ∧ Aside0 (l34_PremiseAfter.j0 kq a1 Dt Ba Bb Bc Bd Be Bf Bg Bh Bi Bj B6 B7 B8 B4 = some r) ∧ Aside0 (kq ≤ k) ∧ Aside0 (Kd.V k44 44 wc w.heap.size (fun k_ => (Bs k_ ∨ w.heap.size ≤ k_) ∧ k_ ≠ B5) (.slice Bt B4.length Bu) B4) ∧ Aside0 (wc.heap[B5]? = some (.cells #[.int .i64 Ba, .int .i64 Bb, .int .i64 Bc, .int .i64 Bd, .int .i64 Be, .int .i64 Bf, .int .i64 Bg, .int .i64 Bh, .int .i64 Bi, .int .i64 Bj, (.slice Bm B6.length Bn), (.slice Bo B7.length Bp), (.slice Bq B8.length Br), (.slice Bt B4.length Bu)] 28 (0, 0))) ∧ Aside0 (Below w.heap.size w wc))
 case first =>
  have H := Gy.out
  clear Gy
  obtain ⟨Gz, A5, H⟩ := bes_ H
  try dsimp only at H
  by_cases c6 : Gz = true
  ·subst c6
   rw [if_pos rfl] at H
   obtain ⟨E9, A7, H⟩ := bes_ H
   try dsimp only at H
   by_cases c8 : E9 = 0
   ·rw [if_pos c8] at H
    have Dp : (E9 == 0) = true := beq_iff_eq.mpr c8
    have Ev : (E9 != 0) = false := bne_eq_false_iff_eq.mpr c8
    clear c8
    (first | rw [Dp] | (simp only [i64_w, i32_w]; rw [Dp]) | skip)
    have H' := am_ H
    clear H
    have Fi := cells_14 B1.out
    have Fj := frozen_14 B1.out
    go_wp2_with (first | ((with_reducible refine gate_load (t := 28) (x := .tmp 2) rfl ?_); refine lrg_ 28 (.tmp 2) B5 28 (by (with_reducible repeat (first | apply kn_ | apply kd_ | apply ka_)); with_reducible exact B1.out) Try.underlying28 ?_) | ((with_reducible refine gate_load (t := 28) (x := .tmp 8) rfl ?_); refine lrg_ 28 (.tmp 8) B3 28 (by (with_reducible repeat (first | apply kn_ | apply kd_ | apply ka_)); with_reducible exact B2.out) Try.underlying28 ?_) | ((with_reducible refine gate_callee (f := 10) rfl ?_); refine gom_ (some 10) Try.func10 (r33_Few.calls k Ba Bb Bc Bd Be Bf Bg Bh Bi Bj _ _ B6 _ _ B7 _ _ B8 _ _ B4 400 _ _ (Kd.C_below Bx.out HB.out) By.out (Kd.C_below Bz.out HB.out) D0.out (Kd.C_below D1.out HB.out) D2.out (Kd.V_reads' Bv.out).2.2 (Kd.V_reads' Bv.out).2.1 A5.out) ?_; rintro e w10 ⟨rfl, hb⟩; refine ⟨_, rfl, ?_⟩; replace Bv := am_ (Kd.V_below Bv.out hb); replace B1 := bkb_ B1 hb; replace HB := bst_ HB hb; (try clear hb); have J0 := cells_14 B1.out; have J1 := frozen_14 B1.out) | (go_at_call 13; (with_reducible refine (r33_Right.calls k Ba Bb Bc Bd Be Bf Bg Bh Bi Bj _ _ B6 _ _ B7 _ _ B8 _ _ B4 _ _ (Kd.C_below Bx.out HB.out) By.out (Kd.C_below Bz.out HB.out) D0.out (Kd.C_below D1.out HB.out) D2.out (Kd.V_reads' Bv.out).2.2 (Kd.V_reads' Bv.out).2.1 A7.out).mono ?_); rintro e w12 ⟨rfl, hb⟩; replace Bv := am_ (Kd.V_below Bv.out hb); replace B1 := bkb_ B1 hb; replace HB := bst_ HB hb; (try clear hb)))
    go_meet
    case rel => exact ⟨_, (decide ((a1.size : Int) > 8000)), (by first | rfl | (simp; done) | (simp [*]; done)), H', ⟨by first | omega | exact Nat.le_refl _⟩, ⟨by (with_reducible repeat (first | apply Kd.V_alloc | apply Kd.V_drewN | apply Kd.V_drew)); exact Bv.out⟩, ⟨by (with_reducible repeat (first | apply kn_ | apply kd_ | apply ka_)); exact B1.out⟩, ⟨by repeat (first | (with_reducible first | exact HB.out | apply ba_ | apply bn_ | apply bd_ | refine bs_ ?_ D4.out) | exact HB.out)⟩⟩
   ·rw [if_neg c8] at H
    have Dp : (E9 == 0) = false := beq_eq_false_iff_ne.mpr c8
    have Ev : (E9 != 0) = true := bne_iff_ne.mpr c8
    (first | rw [Dp] | (simp only [i64_w, i32_w]; rw [Dp]) | skip)
    have H' := am_ H
    clear H
    have Ea := cells_14 B1.out
    have Eb := frozen_14 B1.out
    go_wp2_with (first | ((with_reducible refine gate_load (t := 28) (x := .tmp 2) rfl ?_); refine lrg_ 28 (.tmp 2) B5 28 (by (with_reducible repeat (first | apply kn_ | apply kd_ | apply ka_)); with_reducible exact B1.out) Try.underlying28 ?_) | ((with_reducible refine gate_load (t := 28) (x := .tmp 8) rfl ?_); refine lrg_ 28 (.tmp 8) B3 28 (by (with_reducible repeat (first | apply kn_ | apply kd_ | apply ka_)); with_reducible exact B2.out) Try.underlying28 ?_) | ((with_reducible refine gate_callee (f := 10) rfl ?_); refine gom_ (some 10) Try.func10 (r33_Few.calls k Ba Bb Bc Bd Be Bf Bg Bh Bi Bj _ _ B6 _ _ B7 _ _ B8 _ _ B4 400 _ _ (Kd.C_below Bx.out HB.out) By.out (Kd.C_below Bz.out HB.out) D0.out (Kd.C_below D1.out HB.out) D2.out (Kd.V_reads' Bv.out).2.2 (Kd.V_reads' Bv.out).2.1 A5.out) ?_; rintro e w14 ⟨rfl, hb⟩; refine ⟨_, rfl, ?_⟩; replace Bv := am_ (Kd.V_below Bv.out hb); replace B1 := bkb_ B1 hb; replace HB := bst_ HB hb; (try clear hb); have J2 := cells_14 B1.out; have J3 := frozen_14 B1.out) | (go_at_call 13; (with_reducible refine (r33_Right.calls k Ba Bb Bc Bd Be Bf Bg Bh Bi Bj _ _ B6 _ _ B7 _ _ B8 _ _ B4 _ _ (Kd.C_below Bx.out HB.out) By.out (Kd.C_below Bz.out HB.out) D0.out (Kd.C_below D1.out HB.out) D2.out (Kd.V_reads' Bv.out).2.2 (Kd.V_reads' Bv.out).2.1 A7.out).mono ?_); rintro e w16 ⟨rfl, hb⟩; replace Bv := am_ (Kd.V_below Bv.out hb); replace B1 := bkb_ B1 hb; replace HB := bst_ HB hb; (try clear hb)))
    go_meet
    case rel => exact ⟨_, (true), (by first | rfl | (simp; done) | (simp [*]; done)), H', ⟨by first | omega | exact Nat.le_refl _⟩, ⟨by (with_reducible repeat (first | apply Kd.V_alloc | apply Kd.V_drewN | apply Kd.V_drew)); exact Bv.out⟩, ⟨by (with_reducible repeat (first | apply kn_ | apply kd_ | apply ka_)); exact B1.out⟩, ⟨by repeat (first | (with_reducible first | exact HB.out | apply ba_ | apply bn_ | apply bd_ | refine bs_ ?_ D4.out) | exact HB.out)⟩⟩
  ·replace c6 := Bool.eq_false_iff.mpr c6
   subst c6
   rw [if_neg (show ¬ (false = true) by decide)] at H
   have H' := am_ H
   clear H
   have Ec := cells_14 B1.out
   have Ed := frozen_14 B1.out
   go_wp2_with (first | ((with_reducible refine gate_load (t := 28) (x := .tmp 2) rfl ?_); refine lrg_ 28 (.tmp 2) B5 28 (by (with_reducible repeat (first | apply kn_ | apply kd_ | apply ka_)); with_reducible exact B1.out) Try.underlying28 ?_) | ((with_reducible refine gate_load (t := 28) (x := .tmp 8) rfl ?_); refine lrg_ 28 (.tmp 8) B3 28 (by (with_reducible repeat (first | apply kn_ | apply kd_ | apply ka_)); with_reducible exact B2.out) Try.underlying28 ?_) | ((with_reducible refine gate_callee (f := 10) rfl ?_); refine gom_ (some 10) Try.func10 (r33_Few.calls k Ba Bb Bc Bd Be Bf Bg Bh Bi Bj _ _ B6 _ _ B7 _ _ B8 _ _ B4 400 _ _ (Kd.C_below Bx.out HB.out) By.out (Kd.C_below Bz.out HB.out) D0.out (Kd.C_below D1.out HB.out) D2.out (Kd.V_reads' Bv.out).2.2 (Kd.V_reads' Bv.out).2.1 A5.out) ?_; rintro e w18 ⟨rfl, hb⟩; refine ⟨_, rfl, ?_⟩; replace Bv := am_ (Kd.V_below Bv.out hb); replace B1 := bkb_ B1 hb; replace HB := bst_ HB hb; (try clear hb)))
   go_meet
   case rel => exact ⟨_, (true), (by first | rfl | (simp; done) | (simp [*]; done)), H', ⟨by first | omega | exact Nat.le_refl _⟩, ⟨by (with_reducible repeat (first | apply Kd.V_alloc | apply Kd.V_drewN | apply Kd.V_drew)); exact Bv.out⟩, ⟨by (with_reducible repeat (first | apply kn_ | apply kd_ | apply ka_)); exact B1.out⟩, ⟨by repeat (first | (with_reducible first | exact HB.out | apply ba_ | apply bn_ | apply bd_ | refine bs_ ?_ D4.out) | exact HB.out)⟩⟩
 case rest =>
  clear Gy
  try clear c1
  try clear p2
  try clear c6
  try clear c8
  try clear Dp
  try clear Ev
  try clear c9
  try clear c10
  try clear hcz11_0 hcz11_1 hcz11_2 hcz11_3 hcz11_4 hcz11_5 hcz11_6 hcz11_7 hcz11_8 hcz11_9 hcz11_10 hcz11_11 hcz11_12 hcz11_13
  try clear Ea
  try clear hcz15_0 hcz15_1 hcz15_2 hcz15_3 hcz15_4 hcz15_5 hcz15_6 hcz15_7 hcz15_8 hcz15_9 hcz15_10 hcz15_11 hcz15_12 hcz15_13
  try clear Ec
  try clear Fi
  try clear hfz11_0 hfz11_1 hfz11_2 hfz11_3 hfz11_4 hfz11_5 hfz11_6 hfz11_7 hfz11_8 hfz11_9 hfz11_10 hfz11_11 hfz11_12 hfz11_13
  try clear Eb
  try clear hfz15_0 hfz15_1 hfz15_2 hfz15_3 hfz15_4 hfz15_5 hfz15_6 hfz15_7 hfz15_8 hfz15_9 hfz15_10 hfz15_11 hfz15_12 hfz15_13
  try clear Ed
  try clear Fj
  obtain ⟨kq, Dt, rfl, HA, Eu, B0, B1, HB⟩ := hcut
  cases kq with
  | zero => exact absurd HA.out (by simp [l34_PremiseAfter.j0])
  | succ Gr =>
   have H := HA.out
   clear HA
   simp only [l34_PremiseAfter.j0] at H
   by_cases G1 : Dt = true
   ·subst G1
    rw [if_pos rfl] at H
    replace H := Option.bind_eq_some_iff.mp H
    obtain ⟨J4, G6, H⟩ := H
    replace H : (some J4) = some r := H
    have Mf := am_ G6
    clear G6
    obtain rfl := Option.some.inj H
    go_wp2_with (first | ((with_reducible refine gate_load (t := 28) (x := .tmp 2) rfl ?_); refine lrg_ 28 (.tmp 2) B5 28 (by (with_reducible repeat (first | apply kn_ | apply kd_ | apply ka_)); with_reducible exact B1.out) Try.underlying28 ?_) | ((with_reducible refine gate_load (t := 28) (x := .tmp 8) rfl ?_); refine lrg_ 28 (.tmp 8) B3 28 (by (with_reducible repeat (first | apply kn_ | apply kd_ | apply ka_)); with_reducible exact B2.out) Try.underlying28 ?_) | ((with_reducible refine gate_callee (f := 25) rfl ?_); refine gom_ (some 22) Try.func25 (l34_known.calls Gr  _ _ Mf.out) ?_; rintro e w21 ⟨rfl, hb⟩; refine ⟨_, rfl, ?_⟩; replace B0 := am_ (Kd.V_below B0.out hb); replace B1 := bkb_ B1 hb; replace HB := bst_ HB hb; (try clear hb)))
    go_ret
    exact ⟨by first | rfl | (simp [*] <;> rfl), by repeat (first | (with_reducible first | exact HB.out | apply ba_ | apply bn_ | apply bd_ | refine bs_ ?_ D4.out) | exact HB.out)⟩
   ·replace G1 := Bool.eq_false_iff.mpr G1
    subst G1
    rw [if_neg (show ¬ (false = true) by decide)] at H
    obtain ⟨D7, Mg, H⟩ := bes_ H
    try dsimp only at H
    have Fk := am_ H
    clear H
    have Ez := cells_14 B1.out
    have F0 := frozen_14 B1.out
    go_upto_region 4 with (first | ((with_reducible refine gate_load (t := 28) (x := .tmp 2) rfl ?_); refine lrg_ 28 (.tmp 2) B5 28 (by (with_reducible repeat (first | apply kn_ | apply kd_ | apply ka_)); with_reducible exact B1.out) Try.underlying28 ?_) | ((with_reducible refine gate_load (t := 28) (x := .tmp 8) rfl ?_); refine lrg_ 28 (.tmp 8) B3 28 (by (with_reducible repeat (first | apply kn_ | apply kd_ | apply ka_)); with_reducible exact B2.out) Try.underlying28 ?_) | ((with_reducible refine gate_callee (f := 30) rfl ?_); refine gom_ (some 24) Try.func30 (premise_Last.calls Gr Ba Bb Bc Bd Be Bf Bg Bh Bi Bj _ _ B6 _ _ B7 _ _ B8 _ _ B4 _ _ (Kd.C_below Bx.out HB.out) By.out (Kd.C_below Bz.out HB.out) D0.out (Kd.C_below D1.out HB.out) D2.out (Kd.V_reads' B0.out).2.2 (Kd.V_reads' B0.out).2.1 Mg.out) ?_; rintro e w25 ⟨rfl, hb⟩; refine ⟨_, rfl, ?_⟩; replace B0 := am_ (Kd.V_below B0.out hb); replace B1 := bkb_ B1 hb; replace HB := bst_ HB hb; (try clear hb)))
    (try simp only [Act.put, zs_])
    go_cut [42] (fun v42 wc => ∃ (kq : Nat) (Dh : Bool), v42 = .bool Dh ∧ Aside0 (l34_PremiseAfter.j1 kq a1 D7 Dh Ba Bb Bc Bd Be Bf Bg Bh Bi Bj B6 B7 B8 B4 = some r) ∧ Aside0 (kq ≤ Gr) ∧ Aside0 (Kd.V k44 44 wc w.heap.size (fun k_ => (Bs k_ ∨ w.heap.size ≤ k_) ∧ k_ ≠ B5) (.slice Bt B4.length Bu) B4) ∧ Aside0 (wc.heap[B5]? = some (.cells #[.int .i64 Ba, .int .i64 Bb, .int .i64 Bc, .int .i64 Bd, .int .i64 Be, .int .i64 Bf, .int .i64 Bg, .int .i64 Bh, .int .i64 Bi, .int .i64 Bj, (.slice Bm B6.length Bn), (.slice Bo B7.length Bp), (.slice Bq B8.length Br), (.slice Bt B4.length Bu)] 28 (0, 0))) ∧ Aside0 (Below w.heap.size w wc))
    case first =>
     have H := Fk.out
     clear Fk
     by_cases F1 : D7 < (-1)
     ·rw [if_pos F1] at H
      have Db : decide (D7 < (-1)) = true := decide_eq_true F1
      clear F1
      (first | rw [Db] | (simp only [i64_w, i32_w]; rw [Db]) | skip)
      have H' := am_ H
      clear H
      go_wp2
      go_meet
      case rel => exact ⟨_, (true), (by first | rfl | (simp; done) | (simp [*]; done)), H', ⟨by have := Eu.out; first | omega | exact Nat.le_refl _⟩, ⟨by (with_reducible repeat (first | apply Kd.V_alloc | apply Kd.V_drewN | apply Kd.V_drew)); exact B0.out⟩, ⟨by (with_reducible repeat (first | apply kn_ | apply kd_ | apply ka_)); exact B1.out⟩, ⟨by repeat (first | (with_reducible first | exact HB.out | apply ba_ | apply bn_ | apply bd_ | refine bs_ ?_ D4.out) | exact HB.out)⟩⟩
     ·rw [if_neg F1] at H
      have Db : decide (D7 < (-1)) = false := decide_eq_false F1
      clear F1
      (first | rw [Db] | (simp only [i64_w, i32_w]; rw [Db]) | skip)
      by_cases F2 : D7 ≥ (B4.length : Int)
      ·rw [if_pos F2] at H
       have Ee : decide ((B4.length : Int) ≤ D7) = true := decide_eq_true F2
       clear F2
       have H' := am_ H
       clear H
       have F3 := cells_14 B1.out
       have F4 := frozen_14 B1.out
       go_wp2
       go_meet
       case rel => exact ⟨_, (true), (by first | rfl | (simp; done) | (simp [*]; done)), H', ⟨by have := Eu.out; first | omega | exact Nat.le_refl _⟩, ⟨by (with_reducible repeat (first | apply Kd.V_alloc | apply Kd.V_drewN | apply Kd.V_drew)); exact B0.out⟩, ⟨by (with_reducible repeat (first | apply kn_ | apply kd_ | apply ka_)); exact B1.out⟩, ⟨by repeat (first | (with_reducible first | exact HB.out | apply ba_ | apply bn_ | apply bd_ | refine bs_ ?_ D4.out) | exact HB.out)⟩⟩
      ·rw [if_neg F2] at H
       have Ee : decide ((B4.length : Int) ≤ D7) = false := decide_eq_false F2
       clear F2
       by_cases F5 : D7 ≥ 0
       ·rw [if_pos F5] at H
        have Ef : decide (0 ≤ D7) = true := decide_eq_true F5
        clear F5
        obtain ⟨J5, Mh, H⟩ := bes_ H
        try dsimp only at H
        have H' := am_ H
        clear H
        have F6 := cells_14 B1.out
        have F7 := frozen_14 B1.out
        go_wp2_with (first | ((with_reducible refine gate_load (t := 28) (x := .tmp 2) rfl ?_); refine lrg_ 28 (.tmp 2) B5 28 (by (with_reducible repeat (first | apply kn_ | apply kd_ | apply ka_)); with_reducible exact B1.out) Try.underlying28 ?_) | ((with_reducible refine gate_load (t := 28) (x := .tmp 8) rfl ?_); refine lrg_ 28 (.tmp 8) B3 28 (by (with_reducible repeat (first | apply kn_ | apply kd_ | apply ka_)); with_reducible exact B2.out) Try.underlying28 ?_) | (go_at_call 28; (with_reducible refine (premise_Calm.calls Gr Ba Bb Bc Bd Be Bf Bg Bh Bi Bj _ _ B6 _ _ B7 _ _ B8 _ _ B4 D7 _ _ (Kd.C_below Bx.out HB.out) By.out (Kd.C_below Bz.out HB.out) D0.out (Kd.C_below D1.out HB.out) D2.out (Kd.V_reads' B0.out).2.2 (Kd.V_reads' B0.out).2.1 Mh.out).mono ?_); rintro e w32 ⟨rfl, hb⟩; replace B0 := am_ (Kd.V_below B0.out hb); replace B1 := bkb_ B1 hb; replace HB := bst_ HB hb; (try clear hb)))
        go_meet
        case rel => exact ⟨_, (J5), (by first | rfl | (simp; done) | (simp [*]; done)), H', ⟨by have := Eu.out; first | omega | exact Nat.le_refl _⟩, ⟨by (with_reducible repeat (first | apply Kd.V_alloc | apply Kd.V_drewN | apply Kd.V_drew)); exact B0.out⟩, ⟨by (with_reducible repeat (first | apply kn_ | apply kd_ | apply ka_)); exact B1.out⟩, ⟨by repeat (first | (with_reducible first | exact HB.out | apply ba_ | apply bn_ | apply bd_ | refine bs_ ?_ D4.out) | exact HB.out)⟩⟩
       ·rw [if_neg F5] at H
        have Ef : decide (0 ≤ D7) = false := decide_eq_false F5
        clear F5
        have H' := am_ H
        clear H
        have F8 := cells_14 B1.out
        have F9 := frozen_14 B1.out
        go_wp2
        go_meet
        case rel => exact ⟨_, (false), (by first | rfl | (simp; done) | (simp [*]; done)), H', ⟨by have := Eu.out; first | omega | exact Nat.le_refl _⟩, ⟨by (with_reducible repeat (first | apply Kd.V_alloc | apply Kd.V_drewN | apply Kd.V_drew)); exact B0.out⟩, ⟨by (with_reducible repeat (first | apply kn_ | apply kd_ | apply ka_)); exact B1.out⟩, ⟨by repeat (first | (with_reducible first | exact HB.out | apply ba_ | apply bn_ | apply bd_ | refine bs_ ?_ D4.out) | exact HB.out)⟩⟩
    case rest =>
     clear Fk
     try clear c1
     try clear c2
     try clear p2
     try clear c3
     try clear c6
     try clear c8
     try clear Dp
     try clear Ev
     try clear c9
     try clear c10
     try clear G1
     try clear c25
     try clear F1
     try clear Db
     try clear F2
     try clear Ee
     try clear F5
     try clear Ef
     try clear c30
     try clear hcz11_0 hcz11_1 hcz11_2 hcz11_3 hcz11_4 hcz11_5 hcz11_6 hcz11_7 hcz11_8 hcz11_9 hcz11_10 hcz11_11 hcz11_12 hcz11_13
     try clear Ea
     try clear hcz15_0 hcz15_1 hcz15_2 hcz15_3 hcz15_4 hcz15_5 hcz15_6 hcz15_7 hcz15_8 hcz15_9 hcz15_10 hcz15_11 hcz15_12 hcz15_13
     try clear Ec
     try clear Ez
     try clear F3
     try clear F6
     try clear F8
     try clear Fi
     try clear hfz11_0 hfz11_1 hfz11_2 hfz11_3 hfz11_4 hfz11_5 hfz11_6 hfz11_7 hfz11_8 hfz11_9 hfz11_10 hfz11_11 hfz11_12 hfz11_13
     try clear Eb
     try clear hfz15_0 hfz15_1 hfz15_2 hfz15_3 hfz15_4 hfz15_5 hfz15_6 hfz15_7 hfz15_8 hfz15_9 hfz15_10 hfz15_11 hfz15_12 hfz15_13
     try clear Ed
     try clear F0
     try clear F4
     try clear F7
     try clear F9
     try clear Fj
     try clear p2
     obtain ⟨kq, Dh, rfl, HA, E0, B0, B1, HB⟩ := hcut
     cases kq with
     | zero => exact absurd HA.out (by simp [l34_PremiseAfter.j1])
     | succ G7 =>
      have H := HA.out
      clear HA
      simp only [l34_PremiseAfter.j1] at H
      by_cases G2 : Dh = true
      ·subst G2
       rw [if_pos rfl] at H
       exact absurd H (by simp)
      ·replace G2 := Bool.eq_false_iff.mpr G2
       subst G2
       rw [if_neg (show ¬ (false = true) by decide)] at H
       have H' := am_ H
       clear H
       go_wp2
       go_loopg [6] G7 (fun kq v6 w' => ∃ (Dq : Int), v6 = .int .i64 Dq ∧ Aside0 (l34_PremiseAfter.l0 kq a1 D7 Dq Ba Bb Bc Bd Be Bf Bg Bh Bi Bj B6 B7 B8 B4 = some r) ∧ Aside0 (kq ≤ G7) ∧ Aside0 (Kd.V k44 44 w' w.heap.size (fun k_ => (Bs k_ ∨ w.heap.size ≤ k_) ∧ k_ ≠ B5) (.slice Bt B4.length Bu) B4) ∧ Aside0 (w'.heap[B5]? = some (.cells #[.int .i64 Ba, .int .i64 Bb, .int .i64 Bc, .int .i64 Bd, .int .i64 Be, .int .i64 Bf, .int .i64 Bg, .int .i64 Bh, .int .i64 Bi, .int .i64 Bj, (.slice Bm B6.length Bn), (.slice Bo B7.length Bp), (.slice Bq B8.length Br), (.slice Bt B4.length Bu)] 28 (0, 0))) ∧ Aside0 (Below w.heap.size w w'))
       case atStart => exact ⟨(wrap64 (D7 + 1)), (by first | rfl | (simp; done) | (simp [*]; done)), H', ⟨Nat.le_refl _⟩, ⟨by (with_reducible repeat (first | apply Kd.V_alloc | apply Kd.V_drewN | apply Kd.V_drew)); exact B0.out⟩, ⟨by (with_reducible repeat (first | apply kn_ | apply kd_ | apply ka_)); exact B1.out⟩, ⟨by repeat (first | (with_reducible first | exact HB.out | apply ba_ | apply bn_ | apply bd_ | refine bs_ ?_ D4.out) | exact HB.out)⟩⟩
       case round =>
        clear H'
        try clear c1
        try clear c2
        try clear p2
        try clear c3
        try clear c6
        try clear p6
        try clear c8
        try clear Dp
        try clear Ev
        try clear c9
        try clear c10
        try clear G1
        try clear c25
        try clear F1
        try clear Db
        try clear F2
        try clear Ee
        try clear F5
        try clear Ef
        try clear c30
        try clear G2
        try clear hcz11_0 hcz11_1 hcz11_2 hcz11_3 hcz11_4 hcz11_5 hcz11_6 hcz11_7 hcz11_8 hcz11_9 hcz11_10 hcz11_11 hcz11_12 hcz11_13
        try clear Ea
        try clear hcz15_0 hcz15_1 hcz15_2 hcz15_3 hcz15_4 hcz15_5 hcz15_6 hcz15_7 hcz15_8 hcz15_9 hcz15_10 hcz15_11 hcz15_12 hcz15_13
        try clear Ec
        try clear Ez
        try clear F3
        try clear F6
        try clear F8
        try clear Fi
        try clear hfz11_0 hfz11_1 hfz11_2 hfz11_3 hfz11_4 hfz11_5 hfz11_6 hfz11_7 hfz11_8 hfz11_9 hfz11_10 hfz11_11 hfz11_12 hfz11_13
        try clear Eb
        try clear hfz15_0 hfz15_1 hfz15_2 hfz15_3 hfz15_4 hfz15_5 hfz15_6 hfz15_7 hfz15_8 hfz15_9 hfz15_10 hfz15_11 hfz15_12 hfz15_13
        try clear Ed
        try clear F0
        try clear F4
        try clear F7
        try clear F9
        try clear Fj
        try clear p2
        obtain ⟨Dq, rfl, HA, G3, B0, B1, HB⟩ := hrel
        cases gk with
        | zero => exact absurd HA.out (by simp [l34_PremiseAfter.l0])
        | succ k3 =>
         have H := HA.out
         clear HA
         simp only [l34_PremiseAfter.l0] at H
         by_cases G4 : Dq < (B4.length : Int)
         ·rw [if_pos G4] at H
          have G8 : decide (Dq < (B4.length : Int)) = true := decide_eq_true G4
          clear G4
          obtain ⟨J6, Mi, H⟩ := bes_ H
          try dsimp only at H
          by_cases Gs : J6 = true
          ·subst Gs
           rw [if_pos rfl] at H
           have H' := am_ H
           clear H
           have Lt := cells_14 B1.out
           have Lu := frozen_14 B1.out
           go_wp2_with (first | ((with_reducible refine gate_load (t := 28) (x := .tmp 2) rfl ?_); refine lrg_ 28 (.tmp 2) B5 28 (by (with_reducible repeat (first | apply kn_ | apply kd_ | apply ka_)); with_reducible exact B1.out) Try.underlying28 ?_) | ((with_reducible refine gate_load (t := 28) (x := .tmp 8) rfl ?_); refine lrg_ 28 (.tmp 8) B3 28 (by (with_reducible repeat (first | apply kn_ | apply kd_ | apply ka_)); with_reducible exact B2.out) Try.underlying28 ?_) | ((with_reducible refine gate_callee (f := 28) rfl ?_); refine gom_ (some 54) Try.func28 (premise_Calm.calls k3 Ba Bb Bc Bd Be Bf Bg Bh Bi Bj _ _ B6 _ _ B7 _ _ B8 _ _ B4 Dq _ _ (Kd.C_below Bx.out HB.out) By.out (Kd.C_below Bz.out HB.out) D0.out (Kd.C_below D1.out HB.out) D2.out (Kd.V_reads' B0.out).2.2 (Kd.V_reads' B0.out).2.1 Mi.out) ?_; rintro e w39 ⟨rfl, hb⟩; refine ⟨_, rfl, ?_⟩; replace B0 := am_ (Kd.V_below B0.out hb); replace B1 := bkb_ B1 hb; replace HB := bst_ HB hb; (try clear hb)))
           go_roundg k3
           case measure => have := Eu.out; have := E0.out; have := G3.out; omega
           case rel => exact ⟨(wrap64 (Dq + 1)), (by first | rfl | (simp; done) | (simp [*]; done)), H', ⟨by have := Eu.out; have := E0.out; have := G3.out; omega⟩, ⟨by (with_reducible repeat (first | apply Kd.V_alloc | apply Kd.V_drewN | apply Kd.V_drew)); exact B0.out⟩, ⟨by (with_reducible repeat (first | apply kn_ | apply kd_ | apply ka_)); exact B1.out⟩, ⟨by repeat (first | (with_reducible first | exact HB.out | apply ba_ | apply bn_ | apply bd_ | refine bs_ ?_ D4.out) | exact HB.out)⟩⟩
          ·replace Gs := Bool.eq_false_iff.mpr Gs
           subst Gs
           rw [if_neg (show ¬ (false = true) by decide)] at H
           exact absurd H (by simp)
         ·rw [if_neg G4] at H
          have G8 : decide (Dq < (B4.length : Int)) = false := decide_eq_false G4
          clear G4
          by_cases Gt : ([] : List (S44)).length + B4.length < 977343669134
          ·rw [if_pos Gt] at H
           have G9 := am_ Gt
           clear Gt
           obtain ⟨y408, hy408⟩ : ∃ y_ : List (S44), y_ = (([] : List (S44)) ++ B4) := ⟨_, rfl⟩
           replace H : (if y408.length < 977343669134 then ((some (y408 ++ [(⟨([] : List Int), ([] : List Int), ([] : List (S74)), ([] : List (S48)), ([] : List (S74)), ([] : List (S81))⟩ : S44)] : List (S44))).bind fun Bk => ((premise_Last.f k3 Ba Bb Bc Bd Be Bf Bg Bh Bi Bj B6 B7 B8 Bk).bind fun Di => (if Di = D7 then ((premise_All.f k3 Ba Bb Bc Bd Be Bf Bg Bh Bi Bj B6 B7 B8 Bk).bind fun Dj => ((premise_All.f k3 Ba Bb Bc Bd Be Bf Bg Bh Bi Bj B6 B7 B8 B4).bind fun Dk => (if Dj = Dk then ((premise_Settled.f k3 Ba Bb Bc Bd Be Bf Bg Bh Bi Bj B6 B7 B8 Bk).bind fun Dl => ((premise_Settled.f k3 Ba Bb Bc Bd Be Bf Bg Bh Bi Bj B6 B7 B8 B4).bind fun Dm => (if Dl = Dm then ((premise_Holds.f k3 Ba Bb Bc Bd Be Bf Bg Bh Bi Bj B6 B7 B8 Bk).bind fun Eg => ((premise_Holds.f k3 Ba Bb Bc Bd Be Bf Bg Bh Bi Bj B6 B7 B8 B4).bind fun Eh => (l34_PremiseAfter.j3 k3 a1 (Eg != Eh) Ba Bb Bc Bd Be Bf Bg Bh Bi Bj B6 B7 B8 B4 Ba Bb Bc Bd Be Bf Bg Bh Bi Bj B6 B7 B8 Bk))) else (l34_PremiseAfter.j3 k3 a1 true Ba Bb Bc Bd Be Bf Bg Bh Bi Bj B6 B7 B8 B4 Ba Bb Bc Bd Be Bf Bg Bh Bi Bj B6 B7 B8 Bk)))) else (l34_PremiseAfter.j3 k3 a1 true Ba Bb Bc Bd Be Bf Bg Bh Bi Bj B6 B7 B8 B4 Ba Bb Bc Bd Be Bf Bg Bh Bi Bj B6 B7 B8 Bk)))) else (l34_PremiseAfter.j3 k3 a1 true Ba Bb Bc Bd Be Bf Bg Bh Bi Bj B6 B7 B8 B4 Ba Bb Bc Bd Be Bf Bg Bh Bi Bj B6 B7 B8 Bk)))) else (none)) = some r := by first | (rw [hy408]; with_reducible exact H) | (have Dr := (Option.bind_some _ _).symm.trans H; rw [hy408]; with_reducible exact Dr) | (have Dr := (Option.bind_some _ _).symm.trans H; with_reducible exact Dr) | with_reducible exact H | (rw [hy408]; exact H) | exact H
           have Ga := am_ hy408
           clear hy408
           by_cases Gu : y408.length < 977343669134
           ·rw [if_pos Gu] at H
            have Gb := am_ Gu
            clear Gu
            obtain ⟨Bk, hy412⟩ : ∃ y_ : List (S44), y_ = (y408 ++ [(⟨([] : List Int), ([] : List Int), ([] : List (S74)), ([] : List (S48)), ([] : List (S74)), ([] : List (S81))⟩ : S44)]) := ⟨_, rfl⟩
            replace H : ((premise_Last.f k3 Ba Bb Bc Bd Be Bf Bg Bh Bi Bj B6 B7 B8 Bk).bind fun Di => (if Di = D7 then ((premise_All.f k3 Ba Bb Bc Bd Be Bf Bg Bh Bi Bj B6 B7 B8 Bk).bind fun Dj => ((premise_All.f k3 Ba Bb Bc Bd Be Bf Bg Bh Bi Bj B6 B7 B8 B4).bind fun Dk => (if Dj = Dk then ((premise_Settled.f k3 Ba Bb Bc Bd Be Bf Bg Bh Bi Bj B6 B7 B8 Bk).bind fun Dl => ((premise_Settled.f k3 Ba Bb Bc Bd Be Bf Bg Bh Bi Bj B6 B7 B8 B4).bind fun Dm => (if Dl = Dm then ((premise_Holds.f k3 Ba Bb Bc Bd Be Bf Bg Bh Bi Bj B6 B7 B8 Bk).bind fun Eg => ((premise_Holds.f k3 Ba Bb Bc Bd Be Bf Bg Bh Bi Bj B6 B7 B8 B4).bind fun Eh => (l34_PremiseAfter.j3 k3 a1 (Eg != Eh) Ba Bb Bc Bd Be Bf Bg Bh Bi Bj B6 B7 B8 B4 Ba Bb Bc Bd Be Bf Bg Bh Bi Bj B6 B7 B8 Bk))) else (l34_PremiseAfter.j3 k3 a1 true Ba Bb Bc Bd Be Bf Bg Bh Bi Bj B6 B7 B8 B4 Ba Bb Bc Bd Be Bf Bg Bh Bi Bj B6 B7 B8 Bk)))) else (l34_PremiseAfter.j3 k3 a1 true Ba Bb Bc Bd Be Bf Bg Bh Bi Bj B6 B7 B8 B4 Ba Bb Bc Bd Be Bf Bg Bh Bi Bj B6 B7 B8 Bk)))) else (l34_PremiseAfter.j3 k3 a1 true Ba Bb Bc Bd Be Bf Bg Bh Bi Bj B6 B7 B8 B4 Ba Bb Bc Bd Be Bf Bg Bh Bi Bj B6 B7 B8 Bk))) = some r := by first | (rw [hy412]; with_reducible exact H) | (have Dr := (Option.bind_some _ _).symm.trans H; rw [hy412]; with_reducible exact Dr) | (have Dr := (Option.bind_some _ _).symm.trans H; with_reducible exact Dr) | with_reducible exact H | (rw [hy412]; exact H) | exact H
            have Gc := am_ hy412
            clear hy412
            have Fl := am_ H
            clear H
            have Lv := cells_14 B1.out
            have Lw := frozen_14 B1.out
            go_upto_region 16 with (first | ((with_reducible refine gate_load (t := 28) (x := .tmp 2) rfl ?_); refine lrg_ 28 (.tmp 2) B5 28 (by (with_reducible repeat (first | apply kn_ | apply kd_ | apply ka_)); with_reducible exact B1.out) Try.underlying28 ?_) | ((with_reducible refine gate_load (t := 28) (x := .tmp 8) rfl ?_); refine lrg_ 28 (.tmp 8) B3 28 (by (with_reducible repeat (first | apply kn_ | apply kd_ | apply ka_)); with_reducible exact B2.out) Try.underlying28 ?_) | ((with_reducible refine gate_builtin (b := .append) (xs := #[.tmp 56, .tmp 58]) rfl ?_); (try (refine gate_guard (by rfl) ?_; dsimp only)); at_builtin; refine Kd.N_append_rows k44 (w0 := w) w.heap.size rfl (.tmp 56) (.tmp 58) 26 44 (.agg #[(.slice none 0 0), (.slice none 0 0), (.slice none 0 0), (.slice none 0 0), (.slice none 0 0), (.slice none 0 0)]) 144 rfl Try.underlying26 info44 rfl (by decide) (by omega) (.slice none 0 0) ([] : List (S44)) B4 _ _ _ (fun k_ => (Bs k_ ∨ w.heap.size ≤ k_) ∧ k_ ≠ B5) (fun k_ => ((fun k_ => (Bs k_ ∨ w.heap.size ≤ k_) ∧ k_ ≠ B5)) k_ ∧ some k_ ≠ (.slice none 0 0 : Value).ownBlock) rfl rfl ?aO ?aR (fun _ hk => hk) ?aF ?aB ?aS ?aL ?_; (case aR => exact (by skip; exact Kd.V_F (Kd.V_mono (ok' := (fun k_ => ((fun k_ => (Bs k_ ∨ w.heap.size ≤ k_) ∧ k_ ≠ B5)) k_ ∧ some k_ ≠ (.slice none 0 0 : Value).ownBlock)) (B0.out) (fun k_ hk => ⟨⟨hk.1, hk.2⟩, (by simp [Value.ownBlock])⟩)))); (case aB => exact (by repeat (first | (with_reducible first | exact HB.out | apply ba_ | apply bn_ | apply bd_ | refine bs_ ?_ D4.out) | exact HB.out))); (case aF => exact (fun k_ hk => ⟨(.inr (Nat.le_trans (below_size HB.out) hk)), Kd.freshB (g := B5) (o := .cells #[.int .i64 Ba, .int .i64 Bb, .int .i64 Bc, .int .i64 Bd, .int .i64 Be, .int .i64 Bf, .int .i64 Bg, .int .i64 Bh, .int .i64 Bi, .int .i64 Bj, .slice Bm B6.length Bn, .slice Bo B7.length Bp, .slice Bq B8.length Br, .slice Bt B4.length Bu] 28 (0, 0)) (by (with_reducible repeat (first | apply kn_ | apply kd_ | apply ka_)); exact B1.out) k_ hk⟩)); (case aO => exact ((Kd.N_nil _ _ _ _ (fun k_ => (Bs k_ ∨ w.heap.size ≤ k_) ∧ k_ ≠ B5)))); (case aS => exact (below_size HB.out)); (case aL => have := G9.out; omega); intro v409 w44 ho hb hg hat; rw [← Ga.out] at ho; replace B0 := am_ (Kd.V_afterv (Kd.V_apart_nil (by (with_reducible repeat (first | apply Kd.V_alloc | apply Kd.V_drewN | apply Kd.V_drew)); exact B0.out)) hg hat); replace B1 := am_ (blk_grown (g := B5) (o := .cells #[.int .i64 Ba, .int .i64 Bb, .int .i64 Bc, .int .i64 Bd, .int .i64 Be, .int .i64 Bf, .int .i64 Bg, .int .i64 Bh, .int .i64 Bi, .int .i64 Bj, .slice Bm B6.length Bn, .slice Bo B7.length Bp, .slice Bq B8.length Br, .slice Bt B4.length Bu] 28 (0, 0)) (by (with_reducible repeat (first | apply kn_ | apply kd_ | apply ka_)); exact B1.out) hg (by simp [Value.ownBlock])); replace HB := am_ (hb); have D9 := am_ (ho); clear ho hb hg hat; have J7 := cells_14 B1.out; have J8 := frozen_14 B1.out) | ((with_reducible refine gate_dst (N := 8) rfl ?_); (try (refine gate_guard (by rfl) ?_; dsimp only)); refine bxe_ 8 28 #[.int .i64 0, .int .i64 0, .int .i64 0, .int .i64 0, .int .i64 0, .int .i64 0, .int .i64 0, .int .i64 0, .int .i64 0, .int .i64 0, .slice none 0 0, .slice none 0 0, .slice none 0 0, .slice none 0 0] ?_; intro B3 hg w46 hbox hb; replace B0 := am_ (Kd.V_below (Kd.V_elderB (by (with_reducible repeat (first | apply Kd.V_alloc | apply Kd.V_drewN | apply Kd.V_drew)); exact B0.out) B3 (Nat.le_of_eq hg.symm)) hb); replace D9 := am_ (Kd.N_below (Kd.N_elderB (by (with_reducible repeat (first | apply Kd.N_alloc | apply Kd.N_drewN | apply Kd.N_drew)); exact D9.out) B3 (Nat.le_of_eq hg.symm)) hb); have B2 := am_ (hbox); have Gd := gwk_ HB hg; have D8 := Gd; replace HB := bst_ HB hb; have D6 := nbk_ B1 hg; have Df := nbs_ D6; replace B1 := bkb_ B1 hb; clear hb hbox hg) | ((with_reducible refine gate_store (t := 28) (p := 8) rfl ?_); refine row_store_event (t := 28) (p := 8) (v := ?vo_w47) ?hgd ?ho ?hn B3 #[.int .i64 Ba, .int .i64 Bb, .int .i64 Bc, .int .i64 Bd, .int .i64 Be, .int .i64 Bf, .int .i64 Bg, .int .i64 Bh, .int .i64 Bi, .int .i64 Bj, .slice Bm B6.length Bn, .slice Bo B7.length Bp, .slice Bq B8.length Br, .slice Bt B4.length Bu] ?hx ?hy 28 #[.int .i64 0, .int .i64 0, .int .i64 0, .int .i64 0, .int .i64 0, .int .i64 0, .int .i64 0, .int .i64 0, .int .i64 0, .int .i64 0, .slice none 0 0, .slice none 0 0, .slice none 0 0, .slice none 0 0] ?hg ?hi ?hold ?h1 ?_; (case hgd => rfl); (case ho => rfl); (case hn => rfl); (case hx => rfl); (case hy => rfl); (case hg => exact (by (with_reducible repeat (first | apply kn_ | apply kd_ | apply ka_)); exact B2.out)); (case hi => kernel_rfl); (case hold => rfl); (case h1 => (first | kernel_rfl | simp [Value.oneCell'])); intro w47 hw; have Du : Aside0 (Kd.V k44 44 w47 w.heap.size (fun k_ => (Bs k_ ∨ w.heap.size ≤ k_) ∧ some k_ ≠ (v409 : Value).ownBlock ∧ k_ ≠ B5 ∧ k_ ≠ B3) (.slice Bt B4.length Bu) B4) := ⟨(by rw [hw]; exact (by (with_reducible repeat (first | apply Kd.V_alloc | apply Kd.V_drewN | apply Kd.V_drew)); exact Kd.V_mono (Kd.V_farc (Kd.V_mono B0.out (fun k_ hk => (⟨hk, hk.2⟩ : _ ∧ k_ ≠ B3))) (fun _ hk => hk.2)) (fun _ hk => ⟨hk.1.1.1.1, ⟨hk.1.1.2, ⟨hk.1.1.1.2, hk.1.2⟩⟩⟩)))⟩; have Dv : Aside0 (Kd.N k44 44 w47 w.heap.size (fun k_ => (Bs k_ ∨ w.heap.size ≤ k_) ∧ k_ ≠ B5 ∧ k_ ≠ B3) v409 y408) := ⟨(by rw [hw]; exact (by (with_reducible repeat (first | apply Kd.N_alloc | apply Kd.N_drewN | apply Kd.N_drew)); exact Kd.N_mono (Kd.N_farc (Kd.N_mono D9.out (fun k_ hk => (⟨hk, hk.2⟩ : _ ∧ k_ ≠ B3))) (fun _ hk => hk.2)) (fun _ hk => ⟨hk.1.1.1, ⟨hk.1.1.2, hk.1.2⟩⟩)))⟩; have Dw : Aside0 (w47.heap[B5]? = some (.cells #[.int .i64 Ba, .int .i64 Bb, .int .i64 Bc, .int .i64 Bd, .int .i64 Be, .int .i64 Bf, .int .i64 Bg, .int .i64 Bh, .int .i64 Bi, .int .i64 Bj, .slice Bm B6.length Bn, .slice Bo B7.length Bp, .slice Bq B8.length Br, .slice Bt B4.length Bu] 28 (0, 0))) := ⟨(by rw [hw]; exact (by (with_reducible repeat (first | apply kn_ | apply kd_ | apply ka_)); refine blk_farc ?_ D6.out; (with_reducible repeat (first | apply kn_ | apply kd_ | apply ka_)); exact B1.out))⟩; have Dx : Aside0 (w47.heap[B3]? = some (.cells #[.int .i64 Ba, .int .i64 Bb, .int .i64 Bc, .int .i64 Bd, .int .i64 Be, .int .i64 Bf, .int .i64 Bg, .int .i64 Bh, .int .i64 Bi, .int .i64 Bj, .slice Bm B6.length Bn, .slice Bo B7.length Bp, .slice Bq B8.length Br, .slice Bt B4.length Bu] 28 (0, 0))) := ⟨(by rw [hw]; exact (by (with_reducible repeat (first | apply kn_ | apply kd_ | apply ka_)); refine setRow_heap _ _ #[.int .i64 0, .int .i64 0, .int .i64 0, .int .i64 0, .int .i64 0, .int .i64 0, .int .i64 0, .int .i64 0, .int .i64 0, .int .i64 0, .slice none 0 0, .slice none 0 0, .slice none 0 0, .slice none 0 0] _ 28 (0, 0) ?_; (with_reducible repeat (first | apply kn_ | apply kd_ | apply ka_)); exact B2.out))⟩; have Dy : Aside0 (Below w.heap.size w w47) := ⟨(by rw [hw]; exact (by repeat (first | (with_reducible first | exact HB.out | refine below_setc ?_ D8.out | apply below_alloc | apply pw_below_drewN | apply below_drew1 | refine bs_ ?_ D4.out | refine bs_ ?_ D8.out) | exact HB.out)))⟩; clear hw; clear B0; clear D9; clear B1; clear B2; clear HB; have B0 := Du; have D9 := Dv; have B1 := Dw; have B2 := Dx; have HB := Dy; clear Du Dv Dw Dx Dy) | ((with_reducible refine gate_builtin (b := .append) (xs := #[.tmp 61, .tmp 63]) rfl ?_); (try (refine gate_guard (by rfl) ?_; dsimp only)); at_builtin; refine Kd.N_append k44 (w0 := w) w.heap.size rfl (.tmp 61) (.tmp 63) 26 44 (.agg #[(.slice none 0 0), (.slice none 0 0), (.slice none 0 0), (.slice none 0 0), (.slice none 0 0), (.slice none 0 0)]) 144 rfl Try.underlying26 info44 rfl (by decide) (by omega) v409 y408 (⟨([] : List Int), ([] : List Int), ([] : List (S74)), ([] : List (S48)), ([] : List (S74)), ([] : List (S81))⟩ : S44) [.slice none 0 0, .slice none 0 0, .slice none 0 0, .slice none 0 0, .slice none 0 0, .slice none 0 0] (fun k_ => (Bs k_ ∨ w.heap.size ≤ k_) ∧ k_ ≠ B5 ∧ k_ ≠ B3) (fun k_ => ((fun k_ => (Bs k_ ∨ w.heap.size ≤ k_) ∧ k_ ≠ B5 ∧ k_ ≠ B3)) k_ ∧ some k_ ≠ (v409 : Value).ownBlock) rfl rfl ?aP (fun _ hk => hk) ?aF ?aO ?aB ?aS ?aL ?_; (case aP => exact (k44_mkF _ _ (⟨([] : List Int), ([] : List Int), ([] : List (S74)), ([] : List (S48)), ([] : List (S74)), ([] : List (S81))⟩ : S44) (Nat.le_refl _) (Kd.F_nil _ _ _) (Nat.le_refl _) (Kd.F_nil _ _ _) (Nat.le_refl _) (Kd.F_nil _ _ _) (Nat.le_refl _) (Kd.F_nil _ _ _) (Nat.le_refl _) (Kd.F_nil _ _ _) (Nat.le_refl _) (Kd.F_nil _ _ _))); (case aB => exact (by repeat (first | (with_reducible first | exact HB.out | apply ba_ | apply bn_ | apply bd_ | refine bs_ ?_ D4.out | refine bs_ ?_ D8.out) | exact HB.out))); (case aF => exact (fun k_ hk => ⟨(.inr (Nat.le_trans (below_size HB.out) hk)), Kd.freshB (g := B5) (o := .cells #[.int .i64 Ba, .int .i64 Bb, .int .i64 Bc, .int .i64 Bd, .int .i64 Be, .int .i64 Bf, .int .i64 Bg, .int .i64 Bh, .int .i64 Bi, .int .i64 Bj, .slice Bm B6.length Bn, .slice Bo B7.length Bp, .slice Bq B8.length Br, .slice Bt B4.length Bu] 28 (0, 0)) (by (with_reducible repeat (first | apply kn_ | apply kd_ | apply ka_)); exact B1.out) k_ hk, Kd.freshB (g := B3) (o := .cells #[.int .i64 Ba, .int .i64 Bb, .int .i64 Bc, .int .i64 Bd, .int .i64 Be, .int .i64 Bf, .int .i64 Bg, .int .i64 Bh, .int .i64 Bi, .int .i64 Bj, .slice Bm B6.length Bn, .slice Bo B7.length Bp, .slice Bq B8.length Br, .slice Bt B4.length Bu] 28 (0, 0)) (by (with_reducible repeat (first | apply kn_ | apply kd_ | apply ka_)); exact B2.out) k_ hk⟩)); (case aO => exact (by (with_reducible repeat (first | apply Kd.N_alloc | apply Kd.N_drewN | apply Kd.N_drew)); exact D9.out)); (case aS => exact (below_size HB.out)); (case aL => have := Gb.out; omega); intro v413 w48 ho hb hg hat; rw [← Gc.out] at ho; replace B0 := am_ (Kd.V_afterv (ok := (fun k_ => (Bs k_ ∨ w.heap.size ≤ k_) ∧ k_ ≠ B5 ∧ k_ ≠ B3)) (by (with_reducible repeat (first | apply Kd.V_alloc | apply Kd.V_drewN | apply Kd.V_drew)); exact Kd.V_mono B0.out (fun _ hk => ⟨⟨hk.1, ⟨hk.2.2.1, hk.2.2.2⟩⟩, hk.2.1⟩)) hg hat); replace B1 := am_ (blk_grown (g := B5) (o := .cells #[.int .i64 Ba, .int .i64 Bb, .int .i64 Bc, .int .i64 Bd, .int .i64 Be, .int .i64 Bf, .int .i64 Bg, .int .i64 Bh, .int .i64 Bi, .int .i64 Bj, .slice Bm B6.length Bn, .slice Bo B7.length Bp, .slice Bq B8.length Br, .slice Bt B4.length Bu] 28 (0, 0)) (by (with_reducible repeat (first | apply kn_ | apply kd_ | apply ka_)); exact B1.out) hg (Kd.N_ne D9.out B1.out (by decide))); replace B2 := am_ (blk_grown (g := B3) (o := .cells #[.int .i64 Ba, .int .i64 Bb, .int .i64 Bc, .int .i64 Bd, .int .i64 Be, .int .i64 Bf, .int .i64 Bg, .int .i64 Bh, .int .i64 Bi, .int .i64 Bj, .slice Bm B6.length Bn, .slice Bo B7.length Bp, .slice Bq B8.length Br, .slice Bt B4.length Bu] 28 (0, 0)) (by (with_reducible repeat (first | apply kn_ | apply kd_ | apply ka_)); exact B2.out) hg (Kd.N_ne D9.out B2.out (by decide))); replace HB := am_ (hb); have B9 := am_ (ho); clear D9; clear ho hb hg hat; obtain ⟨D3, Bw, J9⟩ := Kd.N_slice B9.out; subst J9; have Lx := Df.out; have Ly := D6.out; have Ja := cells_14 B2.out; have Jb := frozen_14 B2.out))
            (try simp only [Act.put, zs_])
            go_cut [91] (fun v91 wc => ∃ (kq : Nat) (Dn : Bool), v91 = .bool Dn ∧ Aside0 (l34_PremiseAfter.j3 kq a1 Dn Ba Bb Bc Bd Be Bf Bg Bh Bi Bj B6 B7 B8 B4 Ba Bb Bc Bd Be Bf Bg Bh Bi Bj B6 B7 B8 Bk = some r) ∧ Aside0 (kq ≤ k3) ∧ Aside0 (Kd.V k44 44 wc w.heap.size (fun k_ => (Bs k_ ∨ w.heap.size ≤ k_) ∧ some k_ ≠ ((.slice D3 Bk.length Bw) : Value).ownBlock ∧ k_ ≠ B5 ∧ k_ ≠ B3) (.slice Bt B4.length Bu) B4) ∧ Aside0 (Kd.N k44 44 wc w.heap.size (fun k_ => (Bs k_ ∨ w.heap.size ≤ k_) ∧ k_ ≠ B5 ∧ k_ ≠ B3) (.slice D3 Bk.length Bw) Bk) ∧ Aside0 (wc.heap[B5]? = some (.cells #[.int .i64 Ba, .int .i64 Bb, .int .i64 Bc, .int .i64 Bd, .int .i64 Be, .int .i64 Bf, .int .i64 Bg, .int .i64 Bh, .int .i64 Bi, .int .i64 Bj, (.slice Bm B6.length Bn), (.slice Bo B7.length Bp), (.slice Bq B8.length Br), (.slice Bt B4.length Bu)] 28 (0, 0))) ∧ Aside0 (wc.heap[B3]? = some (.cells #[.int .i64 Ba, .int .i64 Bb, .int .i64 Bc, .int .i64 Bd, .int .i64 Be, .int .i64 Bf, .int .i64 Bg, .int .i64 Bh, .int .i64 Bi, .int .i64 Bj, (.slice Bm B6.length Bn), (.slice Bo B7.length Bp), (.slice Bq B8.length Br), (.slice D3 Bk.length Bw)] 28 (0, 0))) ∧ Aside0 (Below w.heap.size w wc))
            case first =>
             have H := Fl.out
             clear Fl
             obtain ⟨Di, Jc, H⟩ := bes_ H
             try dsimp only at H
             by_cases Fa : Di = D7
             ·rw [if_pos Fa] at H
              have Dg : (Di == D7) = true := beq_iff_eq.mpr Fa
              have Fb : (Di != D7) = false := bne_eq_false_iff_eq.mpr Fa
              clear Fa
              (first | rw [Dg] | (simp only [i64_w, i32_w]; rw [Dg]) | skip)
              obtain ⟨Dj, Lz, H⟩ := bes_ H
              try dsimp only at H
              obtain ⟨Dk, M0, H⟩ := bes_ H
              try dsimp only at H
              by_cases Fc : Dj = Dk
              rw [if_pos Fc] at H
              have Fd : (Dj == Dk) = true := beq_iff_eq.mpr Fc
              have Fe : (Dj != Dk) = false := bne_eq_false_iff_eq.mpr Fc
              clear Fc
              obtain ⟨Dl, M1, H⟩ := bes_ H
              try dsimp only at H
              obtain ⟨Dm, M2, H⟩ := bes_ H
              try dsimp only at H
              by_cases Fm : Dl = Dm
              ·rw [if_pos Fm] at H
               have Ge : (Dl == Dm) = true := beq_iff_eq.mpr Fm
               have Gf : (Dl != Dm) = false := bne_eq_false_iff_eq.mpr Fm
               clear Fm
               obtain ⟨Eg, Mj, H⟩ := bes_ H
               try dsimp only at H
               obtain ⟨Eh, Mk, H⟩ := bes_ H
               try dsimp only at H
               have H' := am_ H
               clear H
               try go_wp2
               have Du : Aside0 (Kd.V k44 44 (w48.setCell ⟨B3, 13, none⟩ (.slice D3 Bk.length Bw)) w.heap.size (fun k_ => (Bs k_ ∨ w.heap.size ≤ k_) ∧ some k_ ≠ (.slice D3 Bk.length Bw : Value).ownBlock ∧ k_ ≠ B5 ∧ k_ ≠ B3) (.slice Bt B4.length Bu) B4) := ⟨by (with_reducible repeat (first | apply Kd.V_alloc | apply Kd.V_drewN | apply Kd.V_drew)); exact Kd.V_mono (Kd.V_far (p := ⟨B3, 13, none⟩) (Kd.V_mono B0.out (fun k_ hk => (⟨hk, hk.1.2.2⟩ : _ ∧ k_ ≠ B3))) (fun _ hk => hk.2) (.slice D3 Bk.length Bw)) (fun _ hk => ⟨hk.1.1.1, ⟨hk.1.2, ⟨hk.1.1.2.1, hk.1.1.2.2⟩⟩⟩)⟩
               have Dv : Aside0 (Kd.N k44 44 (w48.setCell ⟨B3, 13, none⟩ (.slice D3 Bk.length Bw)) w.heap.size (fun k_ => (Bs k_ ∨ w.heap.size ≤ k_) ∧ k_ ≠ B5 ∧ k_ ≠ B3) (.slice D3 Bk.length Bw) Bk) := ⟨by (with_reducible repeat (first | apply Kd.N_alloc | apply Kd.N_drewN | apply Kd.N_drew)); exact Kd.N_mono (Kd.N_far (p := ⟨B3, 13, none⟩) (Kd.N_mono B9.out (fun k_ hk => (⟨hk, hk.2.2⟩ : _ ∧ k_ ≠ B3))) (fun _ hk => hk.2) (.slice D3 Bk.length Bw)) (fun _ hk => ⟨hk.1.1, ⟨hk.1.2.1, hk.1.2.2⟩⟩)⟩
               have Dw : Aside0 ((w48.setCell ⟨B3, 13, none⟩ (.slice D3 Bk.length Bw)).heap[B5]? = some (.cells #[.int .i64 Ba, .int .i64 Bb, .int .i64 Bc, .int .i64 Bd, .int .i64 Be, .int .i64 Bf, .int .i64 Bg, .int .i64 Bh, .int .i64 Bi, .int .i64 Bj, .slice Bm B6.length Bn, .slice Bo B7.length Bp, .slice Bq B8.length Br, .slice Bt B4.length Bu] 28 (0, 0))) := ⟨by (with_reducible repeat (first | apply kn_ | apply kd_ | apply ka_)); refine blk_far ?_ D6.out _; (with_reducible repeat (first | apply kn_ | apply kd_ | apply ka_)); exact B1.out⟩
               have Dx : Aside0 ((w48.setCell ⟨B3, 13, none⟩ (.slice D3 Bk.length Bw)).heap[B3]? = some (.cells #[.int .i64 Ba, .int .i64 Bb, .int .i64 Bc, .int .i64 Bd, .int .i64 Be, .int .i64 Bf, .int .i64 Bg, .int .i64 Bh, .int .i64 Bi, .int .i64 Bj, .slice Bm B6.length Bn, .slice Bo B7.length Bp, .slice Bq B8.length Br, .slice D3 Bk.length Bw] 28 (0, 0))) := ⟨by (with_reducible repeat (first | apply kn_ | apply kd_ | apply ka_)); refine blk_put (cs := #[.int .i64 Ba, .int .i64 Bb, .int .i64 Bc, .int .i64 Bd, .int .i64 Be, .int .i64 Bf, .int .i64 Bg, .int .i64 Bh, .int .i64 Bi, .int .i64 Bj, .slice Bm B6.length Bn, .slice Bo B7.length Bp, .slice Bq B8.length Br, .slice Bt B4.length Bu]) ?_ 13 _ rfl; (with_reducible repeat (first | apply kn_ | apply kd_ | apply ka_)); exact B2.out⟩
               have Dy : Aside0 (Below w.heap.size w (w48.setCell ⟨B3, 13, none⟩ (.slice D3 Bk.length Bw))) := ⟨by repeat (first | (with_reducible first | exact HB.out | apply ba_ | apply bn_ | apply bd_ | refine bs_ ?_ D4.out | refine bs_ ?_ D8.out) | exact HB.out)⟩
               (try clear B0)
               (try clear B9)
               (try clear B1)
               (try clear B2)
               (try clear HB)
               generalize (w48.setCell ⟨B3, 13, none⟩ (.slice D3 Bk.length Bw)) = w62 at Du Dv Dw Dx Dy ⊢
               have B0 := Du
               have B9 := Dv
               have B1 := Dw
               have B2 := Dx
               have HB := Dy
               clear Du Dv Dw Dx Dy
               replace B0 := am_ (Kd.V_drew B0.out)
               replace B9 := am_ (Kd.N_drew B9.out)
               replace B1 := am_ (blk_drew B1.out)
               replace B2 := am_ (blk_drew B2.out)
               replace HB := am_ (below_drew1 HB.out)
               refine start_ (n := 25) (S := fun w' => ce_ w' B3 0 (.int .i64 Ba) ∧ ce_ w' B3 1 (.int .i64 Bb) ∧ ce_ w' B3 2 (.int .i64 Bc) ∧ ce_ w' B3 3 (.int .i64 Bd) ∧ ce_ w' B3 4 (.int .i64 Be) ∧ ce_ w' B3 5 (.int .i64 Bf) ∧ ce_ w' B3 6 (.int .i64 Bg) ∧ ce_ w' B3 7 (.int .i64 Bh) ∧ ce_ w' B3 8 (.int .i64 Bi) ∧ ce_ w' B3 9 (.int .i64 Bj) ∧ ce_ w' B3 10 (.slice Bm B6.length Bn) ∧ ce_ w' B3 11 (.slice Bo B7.length Bp) ∧ ce_ w' B3 12 (.slice Bq B8.length Br) ∧ ce_ w' B3 13 (.slice D3 Bk.length Bw) ∧ ce_ w' B5 0 (.int .i64 Ba) ∧ ce_ w' B5 1 (.int .i64 Bb) ∧ ce_ w' B5 2 (.int .i64 Bc) ∧ ce_ w' B5 3 (.int .i64 Bd) ∧ ce_ w' B5 4 (.int .i64 Be) ∧ ce_ w' B5 5 (.int .i64 Bf) ∧ ce_ w' B5 6 (.int .i64 Bg) ∧ ce_ w' B5 7 (.int .i64 Bh) ∧ ce_ w' B5 8 (.int .i64 Bi) ∧ ce_ w' B5 9 (.int .i64 Bj) ∧ ce_ w' B5 10 (.slice Bm B6.length Bn) ∧ ce_ w' B5 11 (.slice Bo B7.length Bp) ∧ ce_ w' B5 12 (.slice Bq B8.length Br) ∧ ce_ w' B5 13 (.slice Bt B4.length Bu)) (ds := []) #[false, false, false, false, false, false, false, false, false, false, false, false, false, false, false, false, false, false, false, false, false, false, false, false, false] (by kernel_rfl) rfl rfl ⟨(blk_cell B2.out 0).trans rfl, (blk_cell B2.out 1).trans rfl, (blk_cell B2.out 2).trans rfl, (blk_cell B2.out 3).trans rfl, (blk_cell B2.out 4).trans rfl, (blk_cell B2.out 5).trans rfl, (blk_cell B2.out 6).trans rfl, (blk_cell B2.out 7).trans rfl, (blk_cell B2.out 8).trans rfl, (blk_cell B2.out 9).trans rfl, (blk_cell B2.out 10).trans rfl, (blk_cell B2.out 11).trans rfl, (blk_cell B2.out 12).trans rfl, (blk_cell B2.out 13).trans rfl, (blk_cell B1.out 0).trans rfl, (blk_cell B1.out 1).trans rfl, (blk_cell B1.out 2).trans rfl, (blk_cell B1.out 3).trans rfl, (blk_cell B1.out 4).trans rfl, (blk_cell B1.out 5).trans rfl, (blk_cell B1.out 6).trans rfl, (blk_cell B1.out 7).trans rfl, (blk_cell B1.out 8).trans rfl, (blk_cell B1.out 9).trans rfl, (blk_cell B1.out 10).trans rfl, (blk_cell B1.out 11).trans rfl, (blk_cell B1.out 12).trans rfl, (blk_cell B1.out 13).trans rfl⟩ (fun hHeld => ?_); refine with_tabW l34_PremiseAfter.tab16 l34_PremiseAfter.bits16 (fun HT_ HW_ => ?_)
               generalize w62.drew = w63 at B0 B9 B1 B2 HB hHeld ⊢
               refine pur_ 2 (some 69) rfl rfl (any_of HT_.out (by kernel_rfl)) ?_
               refine tak_ 0 (some 67) rfl rfl (take_ofW HT_.out HW_.out (by kernel_rfl)) hHeld ?_ (by rintro w' ⟨s0, s1, s2, s3, s4, s5, s6, s7, s8, s9, s10, s11, s12, s13, s14, s15, s16, s17, s18, s19, s20, s21, s22, s23, s24, s25, s26, s27⟩; (first | (refine load_cells_14 (ty := 28) (x := .tmp 2) (g := B5) ?hlo_ ?hx_ Try.underlying28 ?hd_ ?hi_ s14 s15 s16 s17 s18 s19 s20 s21 s22 s23 s24 s25 s26 s27; (case hlo_ => rfl); (case hx_ => rfl); (case hd_ => rfl); (case hi_ => kernel_rfl)) | (refine load_cells_14 (ty := 28) (x := .tmp 8) (g := B3) ?hlo_ ?hx_ Try.underlying28 ?hd_ ?hi_ s0 s1 s2 s3 s4 s5 s6 s7 s8 s9 s10 s11 s12 s13; (case hlo_ => rfl); (case hx_ => rfl); (case hd_ => rfl); (case hi_ => kernel_rfl)) | (go_simp; with_reducible rfl)))
               refine oon_ 1 (some 68) rfl rfl (one_of HT_.out (by kernel_rfl)) (fun K hK => ?_)
               refine gos_ Try.func30 (premise_Last.calls k3 Ba Bb Bc Bd Be Bf Bg Bh Bi Bj _ _ B6 _ _ B7 _ _ B8 _ _ Bk _ _ (Kd.C_below Bx.out HB.out) By.out (Kd.C_below Bz.out HB.out) D0.out (Kd.C_below D1.out HB.out) D2.out (Kd.N_reads' B9.out).2.2 (Kd.N_reads' B9.out).2.1 Jc.out) ?_
               rintro e w64 ⟨rfl, hb⟩
               refine ⟨_, rfl, ?_⟩
               replace B0 := am_ (Kd.V_below B0.out hb)
               replace B9 := am_ (Kd.N_below B9.out hb)
               replace B1 := bkb_ B1 hb
               replace B2 := bkb_ B2 hb
               replace HB := bst_ HB hb
               (try clear hb)
               (try clear hb2)
               (try clear hk)
               (try clear hi)
               refine hK.out _ _ (and_14 B2.out (cells_14 B1.out)) (fun hHeld => ?_)
               clear hK K
               refine nor_ 68 ?_
               refine pur_ 3 (some 70) rfl rfl (any_of HT_.out (by kernel_rfl)) ?_
               refine pur_ 4 (some 71) rfl rfl (any_of HT_.out (by kernel_rfl)) ?_
               refine tak_ 5 (some 72) rfl rfl (take_ofW HT_.out HW_.out (by kernel_rfl)) hHeld ?_ (by rintro w' ⟨s0, s1, s2, s3, s4, s5, s6, s7, s8, s9, s10, s11, s12, s13, s14, s15, s16, s17, s18, s19, s20, s21, s22, s23, s24, s25, s26, s27⟩; (first | (refine load_cells_14 (ty := 28) (x := .tmp 2) (g := B5) ?hlo_ ?hx_ Try.underlying28 ?hd_ ?hi_ s14 s15 s16 s17 s18 s19 s20 s21 s22 s23 s24 s25 s26 s27; (case hlo_ => rfl); (case hx_ => rfl); (case hd_ => rfl); (case hi_ => kernel_rfl)) | (refine load_cells_14 (ty := 28) (x := .tmp 8) (g := B3) ?hlo_ ?hx_ Try.underlying28 ?hd_ ?hi_ s0 s1 s2 s3 s4 s5 s6 s7 s8 s9 s10 s11 s12 s13; (case hlo_ => rfl); (case hx_ => rfl); (case hd_ => rfl); (case hi_ => kernel_rfl)) | (go_simp; with_reducible rfl)))
               refine tak_ 7 (some 74) rfl rfl (take_ofW HT_.out HW_.out (by kernel_rfl)) hHeld ?_ (by rintro w' ⟨s0, s1, s2, s3, s4, s5, s6, s7, s8, s9, s10, s11, s12, s13, s14, s15, s16, s17, s18, s19, s20, s21, s22, s23, s24, s25, s26, s27⟩; (first | (refine load_cells_14 (ty := 28) (x := .tmp 2) (g := B5) ?hlo_ ?hx_ Try.underlying28 ?hd_ ?hi_ s14 s15 s16 s17 s18 s19 s20 s21 s22 s23 s24 s25 s26 s27; (case hlo_ => rfl); (case hx_ => rfl); (case hd_ => rfl); (case hi_ => kernel_rfl)) | (refine load_cells_14 (ty := 28) (x := .tmp 8) (g := B3) ?hlo_ ?hx_ Try.underlying28 ?hd_ ?hi_ s0 s1 s2 s3 s4 s5 s6 s7 s8 s9 s10 s11 s12 s13; (case hlo_ => rfl); (case hx_ => rfl); (case hd_ => rfl); (case hi_ => kernel_rfl)) | (go_simp; with_reducible rfl)))
               refine oon_ 6 (some 73) rfl rfl (one_of HT_.out (by kernel_rfl)) (fun K hK => ?_)
               refine gos_ Try.func34 (premise_All.calls k3 Ba Bb Bc Bd Be Bf Bg Bh Bi Bj _ _ B6 _ _ B7 _ _ B8 _ _ Bk _ _ (Kd.C_below Bx.out HB.out) By.out (Kd.C_below Bz.out HB.out) D0.out (Kd.C_below D1.out HB.out) D2.out (Kd.N_reads' B9.out).2.2 (Kd.N_reads' B9.out).2.1 Lz.out) ?_
               rintro e w65 ⟨rfl, hb⟩
               refine ⟨_, rfl, ?_⟩
               replace B0 := am_ (Kd.V_below B0.out hb)
               replace B9 := am_ (Kd.N_below B9.out hb)
               replace B1 := bkb_ B1 hb
               replace B2 := bkb_ B2 hb
               replace HB := bst_ HB hb
               (try clear hb)
               (try clear hb2)
               (try clear hk)
               (try clear hi)
               refine hK.out _ _ (and_14 B2.out (cells_14 B1.out)) (fun hHeld => ?_)
               clear hK K
               refine nor_ 73 ?_
               refine oon_ 8 (some 75) rfl rfl (one_of HT_.out (by kernel_rfl)) (fun K hK => ?_)
               refine gos_ Try.func34 (premise_All.calls k3 Ba Bb Bc Bd Be Bf Bg Bh Bi Bj _ _ B6 _ _ B7 _ _ B8 _ _ B4 _ _ (Kd.C_below Bx.out HB.out) By.out (Kd.C_below Bz.out HB.out) D0.out (Kd.C_below D1.out HB.out) D2.out (Kd.V_reads' B0.out).2.2 (Kd.V_reads' B0.out).2.1 M0.out) ?_
               rintro e w66 ⟨rfl, hb⟩
               refine ⟨_, rfl, ?_⟩
               replace B0 := am_ (Kd.V_below B0.out hb)
               replace B9 := am_ (Kd.N_below B9.out hb)
               replace B1 := bkb_ B1 hb
               replace B2 := bkb_ B2 hb
               replace HB := bst_ HB hb
               (try clear hb)
               (try clear hb2)
               (try clear hk)
               (try clear hi)
               refine hK.out _ _ (and_14 B2.out (cells_14 B1.out)) (fun hHeld => ?_)
               clear hK K
               refine nor_ 75 ?_
               refine pur_ 9 (some 76) rfl rfl (any_of HT_.out (by kernel_rfl)) ?_
               refine pur_ 10 (some 77) rfl rfl (any_of HT_.out (by kernel_rfl)) ?_
               refine pur_ 11 (some 78) rfl rfl (any_of HT_.out (by kernel_rfl)) ?_
               refine tak_ 12 (some 79) rfl rfl (take_ofW HT_.out HW_.out (by kernel_rfl)) hHeld ?_ (by rintro w' ⟨s0, s1, s2, s3, s4, s5, s6, s7, s8, s9, s10, s11, s12, s13, s14, s15, s16, s17, s18, s19, s20, s21, s22, s23, s24, s25, s26, s27⟩; (first | (refine load_cells_14 (ty := 28) (x := .tmp 2) (g := B5) ?hlo_ ?hx_ Try.underlying28 ?hd_ ?hi_ s14 s15 s16 s17 s18 s19 s20 s21 s22 s23 s24 s25 s26 s27; (case hlo_ => rfl); (case hx_ => rfl); (case hd_ => rfl); (case hi_ => kernel_rfl)) | (refine load_cells_14 (ty := 28) (x := .tmp 8) (g := B3) ?hlo_ ?hx_ Try.underlying28 ?hd_ ?hi_ s0 s1 s2 s3 s4 s5 s6 s7 s8 s9 s10 s11 s12 s13; (case hlo_ => rfl); (case hx_ => rfl); (case hd_ => rfl); (case hi_ => kernel_rfl)) | (go_simp; with_reducible rfl)))
               refine tak_ 14 (some 81) rfl rfl (take_ofW HT_.out HW_.out (by kernel_rfl)) hHeld ?_ (by rintro w' ⟨s0, s1, s2, s3, s4, s5, s6, s7, s8, s9, s10, s11, s12, s13, s14, s15, s16, s17, s18, s19, s20, s21, s22, s23, s24, s25, s26, s27⟩; (first | (refine load_cells_14 (ty := 28) (x := .tmp 2) (g := B5) ?hlo_ ?hx_ Try.underlying28 ?hd_ ?hi_ s14 s15 s16 s17 s18 s19 s20 s21 s22 s23 s24 s25 s26 s27; (case hlo_ => rfl); (case hx_ => rfl); (case hd_ => rfl); (case hi_ => kernel_rfl)) | (refine load_cells_14 (ty := 28) (x := .tmp 8) (g := B3) ?hlo_ ?hx_ Try.underlying28 ?hd_ ?hi_ s0 s1 s2 s3 s4 s5 s6 s7 s8 s9 s10 s11 s12 s13; (case hlo_ => rfl); (case hx_ => rfl); (case hd_ => rfl); (case hi_ => kernel_rfl)) | (go_simp; with_reducible rfl)))
               refine oon_ 13 (some 80) rfl rfl (one_of HT_.out (by kernel_rfl)) (fun K hK => ?_)
               refine gos_ Try.func32 (premise_Settled.calls k3 Ba Bb Bc Bd Be Bf Bg Bh Bi Bj _ _ B6 _ _ B7 _ _ B8 _ _ Bk _ _ (Kd.C_below Bx.out HB.out) By.out (Kd.C_below Bz.out HB.out) D0.out (Kd.C_below D1.out HB.out) D2.out (Kd.N_reads' B9.out).2.2 (Kd.N_reads' B9.out).2.1 M1.out) ?_
               rintro e w67 ⟨rfl, hb⟩
               refine ⟨_, rfl, ?_⟩
               replace B0 := am_ (Kd.V_below B0.out hb)
               replace B9 := am_ (Kd.N_below B9.out hb)
               replace B1 := bkb_ B1 hb
               replace B2 := bkb_ B2 hb
               replace HB := bst_ HB hb
               (try clear hb)
               (try clear hb2)
               (try clear hk)
               (try clear hi)
               refine hK.out _ _ (and_14 B2.out (cells_14 B1.out)) (fun hHeld => ?_)
               clear hK K
               refine nor_ 80 ?_
               refine oon_ 15 (some 82) rfl rfl (one_of HT_.out (by kernel_rfl)) (fun K hK => ?_)
               refine gos_ Try.func32 (premise_Settled.calls k3 Ba Bb Bc Bd Be Bf Bg Bh Bi Bj _ _ B6 _ _ B7 _ _ B8 _ _ B4 _ _ (Kd.C_below Bx.out HB.out) By.out (Kd.C_below Bz.out HB.out) D0.out (Kd.C_below D1.out HB.out) D2.out (Kd.V_reads' B0.out).2.2 (Kd.V_reads' B0.out).2.1 M2.out) ?_
               rintro e w68 ⟨rfl, hb⟩
               refine ⟨_, rfl, ?_⟩
               replace B0 := am_ (Kd.V_below B0.out hb)
               replace B9 := am_ (Kd.N_below B9.out hb)
               replace B1 := bkb_ B1 hb
               replace B2 := bkb_ B2 hb
               replace HB := bst_ HB hb
               (try clear hb)
               (try clear hb2)
               (try clear hk)
               (try clear hi)
               refine hK.out _ _ (and_14 B2.out (cells_14 B1.out)) (fun hHeld => ?_)
               clear hK K
               refine nor_ 82 ?_
               refine pur_ 16 (some 83) rfl rfl (any_of HT_.out (by kernel_rfl)) ?_
               refine pur_ 17 (some 84) rfl rfl (any_of HT_.out (by kernel_rfl)) ?_
               refine pur_ 18 (some 85) rfl rfl (any_of HT_.out (by kernel_rfl)) ?_
               refine tak_ 19 (some 86) rfl rfl (take_ofW HT_.out HW_.out (by kernel_rfl)) hHeld ?_ (by rintro w' ⟨s0, s1, s2, s3, s4, s5, s6, s7, s8, s9, s10, s11, s12, s13, s14, s15, s16, s17, s18, s19, s20, s21, s22, s23, s24, s25, s26, s27⟩; (first | (refine load_cells_14 (ty := 28) (x := .tmp 2) (g := B5) ?hlo_ ?hx_ Try.underlying28 ?hd_ ?hi_ s14 s15 s16 s17 s18 s19 s20 s21 s22 s23 s24 s25 s26 s27; (case hlo_ => rfl); (case hx_ => rfl); (case hd_ => rfl); (case hi_ => kernel_rfl)) | (refine load_cells_14 (ty := 28) (x := .tmp 8) (g := B3) ?hlo_ ?hx_ Try.underlying28 ?hd_ ?hi_ s0 s1 s2 s3 s4 s5 s6 s7 s8 s9 s10 s11 s12 s13; (case hlo_ => rfl); (case hx_ => rfl); (case hd_ => rfl); (case hi_ => kernel_rfl)) | (go_simp; with_reducible rfl)))
               refine tak_ 21 (some 88) rfl rfl (take_ofW HT_.out HW_.out (by kernel_rfl)) hHeld ?_ (by rintro w' ⟨s0, s1, s2, s3, s4, s5, s6, s7, s8, s9, s10, s11, s12, s13, s14, s15, s16, s17, s18, s19, s20, s21, s22, s23, s24, s25, s26, s27⟩; (first | (refine load_cells_14 (ty := 28) (x := .tmp 2) (g := B5) ?hlo_ ?hx_ Try.underlying28 ?hd_ ?hi_ s14 s15 s16 s17 s18 s19 s20 s21 s22 s23 s24 s25 s26 s27; (case hlo_ => rfl); (case hx_ => rfl); (case hd_ => rfl); (case hi_ => kernel_rfl)) | (refine load_cells_14 (ty := 28) (x := .tmp 8) (g := B3) ?hlo_ ?hx_ Try.underlying28 ?hd_ ?hi_ s0 s1 s2 s3 s4 s5 s6 s7 s8 s9 s10 s11 s12 s13; (case hlo_ => rfl); (case hx_ => rfl); (case hd_ => rfl); (case hi_ => kernel_rfl)) | (go_simp; with_reducible rfl)))
               refine oon_ 20 (some 87) rfl rfl (one_of HT_.out (by kernel_rfl)) (fun K hK => ?_)
               refine gos_ Try.func26 (premise_Holds.calls k3 Ba Bb Bc Bd Be Bf Bg Bh Bi Bj _ _ B6 _ _ B7 _ _ B8 _ _ Bk _ _ (Kd.C_below Bx.out HB.out) By.out (Kd.C_below Bz.out HB.out) D0.out (Kd.C_below D1.out HB.out) D2.out (Kd.N_reads' B9.out).2.2 (Kd.N_reads' B9.out).2.1 Mj.out) ?_
               rintro e w69 ⟨rfl, hb⟩
               refine ⟨_, rfl, ?_⟩
               replace B0 := am_ (Kd.V_below B0.out hb)
               replace B9 := am_ (Kd.N_below B9.out hb)
               replace B1 := bkb_ B1 hb
               replace B2 := bkb_ B2 hb
               replace HB := bst_ HB hb
               (try clear hb)
               (try clear hb2)
               (try clear hk)
               (try clear hi)
               refine hK.out _ _ (and_14 B2.out (cells_14 B1.out)) (fun hHeld => ?_)
               clear hK K
               refine nor_ 87 ?_
               refine oon_ 22 (some 89) rfl rfl (one_of HT_.out (by kernel_rfl)) (fun K hK => ?_)
               refine gos_ Try.func26 (premise_Holds.calls k3 Ba Bb Bc Bd Be Bf Bg Bh Bi Bj _ _ B6 _ _ B7 _ _ B8 _ _ B4 _ _ (Kd.C_below Bx.out HB.out) By.out (Kd.C_below Bz.out HB.out) D0.out (Kd.C_below D1.out HB.out) D2.out (Kd.V_reads' B0.out).2.2 (Kd.V_reads' B0.out).2.1 Mk.out) ?_
               rintro e w70 ⟨rfl, hb⟩
               refine ⟨_, rfl, ?_⟩
               replace B0 := am_ (Kd.V_below B0.out hb)
               replace B9 := am_ (Kd.N_below B9.out hb)
               replace B1 := bkb_ B1 hb
               replace B2 := bkb_ B2 hb
               replace HB := bst_ HB hb
               (try clear hb)
               (try clear hb2)
               (try clear hk)
               (try clear hi)
               refine hK.out _ _ (and_14 B2.out (cells_14 B1.out)) (fun hHeld => ?_)
               clear hK K
               refine nor_ 89 ?_
               refine pur_ 23 (some 90) rfl rfl (any_of HT_.out (by kernel_rfl)) ?_
               refine pur_ 24 (some 91) rfl rfl (any_of HT_.out (by kernel_rfl)) ?_
               refine done_ (done_of HT_.out (by kernel_rfl)) ?_
               try go_wp2
               go_meet
               case rel => exact ⟨_, ((Eg != Eh)), (by first | rfl | (simp; done) | (simp [*]; done)), H', ⟨by have := Eu.out; have := E0.out; have := G3.out; first | omega | exact Nat.le_refl _⟩, ⟨by (with_reducible repeat (first | apply Kd.V_alloc | apply Kd.V_drewN | apply Kd.V_drew)); exact B0.out⟩, ⟨by (with_reducible repeat (first | apply Kd.N_alloc | apply Kd.N_drewN | apply Kd.N_drew)); exact B9.out⟩, ⟨by (with_reducible repeat (first | apply kn_ | apply kd_ | apply ka_)); exact B1.out⟩, ⟨by (with_reducible repeat (first | apply kn_ | apply kd_ | apply ka_)); exact B2.out⟩, ⟨by repeat (first | (with_reducible first | exact HB.out | apply ba_ | apply bn_ | apply bd_ | refine bs_ ?_ D4.out | refine bs_ ?_ D8.out) | exact HB.out)⟩⟩
              rw [if_neg Fm] at H
              have Ge : (Dl == Dm) = false := beq_eq_false_iff_ne.mpr Fm
              have Gf : (Dl != Dm) = true := bne_iff_ne.mpr Fm
              rotate_left
              rw [if_neg Fc] at H
              have Fd : (Dj == Dk) = false := beq_eq_false_iff_ne.mpr Fc
              have Fe : (Dj != Dk) = true := bne_iff_ne.mpr Fc
              rotate_left
              all_goals
               have H' := am_ H
               clear H
               try go_wp2
               have Du : Aside0 (Kd.V k44 44 (w48.setCell ⟨B3, 13, none⟩ (.slice D3 Bk.length Bw)) w.heap.size (fun k_ => (Bs k_ ∨ w.heap.size ≤ k_) ∧ some k_ ≠ (.slice D3 Bk.length Bw : Value).ownBlock ∧ k_ ≠ B5 ∧ k_ ≠ B3) (.slice Bt B4.length Bu) B4) := ⟨by (with_reducible repeat (first | apply Kd.V_alloc | apply Kd.V_drewN | apply Kd.V_drew)); exact Kd.V_mono (Kd.V_far (p := ⟨B3, 13, none⟩) (Kd.V_mono B0.out (fun k_ hk => (⟨hk, hk.1.2.2⟩ : _ ∧ k_ ≠ B3))) (fun _ hk => hk.2) (.slice D3 Bk.length Bw)) (fun _ hk => ⟨hk.1.1.1, ⟨hk.1.2, ⟨hk.1.1.2.1, hk.1.1.2.2⟩⟩⟩)⟩
               have Dv : Aside0 (Kd.N k44 44 (w48.setCell ⟨B3, 13, none⟩ (.slice D3 Bk.length Bw)) w.heap.size (fun k_ => (Bs k_ ∨ w.heap.size ≤ k_) ∧ k_ ≠ B5 ∧ k_ ≠ B3) (.slice D3 Bk.length Bw) Bk) := ⟨by (with_reducible repeat (first | apply Kd.N_alloc | apply Kd.N_drewN | apply Kd.N_drew)); exact Kd.N_mono (Kd.N_far (p := ⟨B3, 13, none⟩) (Kd.N_mono B9.out (fun k_ hk => (⟨hk, hk.2.2⟩ : _ ∧ k_ ≠ B3))) (fun _ hk => hk.2) (.slice D3 Bk.length Bw)) (fun _ hk => ⟨hk.1.1, ⟨hk.1.2.1, hk.1.2.2⟩⟩)⟩
               have Dw : Aside0 ((w48.setCell ⟨B3, 13, none⟩ (.slice D3 Bk.length Bw)).heap[B5]? = some (.cells #[.int .i64 Ba, .int .i64 Bb, .int .i64 Bc, .int .i64 Bd, .int .i64 Be, .int .i64 Bf, .int .i64 Bg, .int .i64 Bh, .int .i64 Bi, .int .i64 Bj, .slice Bm B6.length Bn, .slice Bo B7.length Bp, .slice Bq B8.length Br, .slice Bt B4.length Bu] 28 (0, 0))) := ⟨by (with_reducible repeat (first | apply kn_ | apply kd_ | apply ka_)); refine blk_far ?_ D6.out _; (with_reducible repeat (first | apply kn_ | apply kd_ | apply ka_)); exact B1.out⟩
               have Dx : Aside0 ((w48.setCell ⟨B3, 13, none⟩ (.slice D3 Bk.length Bw)).heap[B3]? = some (.cells #[.int .i64 Ba, .int .i64 Bb, .int .i64 Bc, .int .i64 Bd, .int .i64 Be, .int .i64 Bf, .int .i64 Bg, .int .i64 Bh, .int .i64 Bi, .int .i64 Bj, .slice Bm B6.length Bn, .slice Bo B7.length Bp, .slice Bq B8.length Br, .slice D3 Bk.length Bw] 28 (0, 0))) := ⟨by (with_reducible repeat (first | apply kn_ | apply kd_ | apply ka_)); refine blk_put (cs := #[.int .i64 Ba, .int .i64 Bb, .int .i64 Bc, .int .i64 Bd, .int .i64 Be, .int .i64 Bf, .int .i64 Bg, .int .i64 Bh, .int .i64 Bi, .int .i64 Bj, .slice Bm B6.length Bn, .slice Bo B7.length Bp, .slice Bq B8.length Br, .slice Bt B4.length Bu]) ?_ 13 _ rfl; (with_reducible repeat (first | apply kn_ | apply kd_ | apply ka_)); exact B2.out⟩
               have Dy : Aside0 (Below w.heap.size w (w48.setCell ⟨B3, 13, none⟩ (.slice D3 Bk.length Bw))) := ⟨by repeat (first | (with_reducible first | exact HB.out | apply ba_ | apply bn_ | apply bd_ | refine bs_ ?_ D4.out | refine bs_ ?_ D8.out) | exact HB.out)⟩
               (try clear B0)
               (try clear B9)
               (try clear B1)
               (try clear B2)
               (try clear HB)
               generalize (w48.setCell ⟨B3, 13, none⟩ (.slice D3 Bk.length Bw)) = w71 at Du Dv Dw Dx Dy ⊢
               have B0 := Du
               have B9 := Dv
               have B1 := Dw
               have B2 := Dx
               have HB := Dy
               clear Du Dv Dw Dx Dy
               replace B0 := am_ (Kd.V_drew B0.out)
               replace B9 := am_ (Kd.N_drew B9.out)
               replace B1 := am_ (blk_drew B1.out)
               replace B2 := am_ (blk_drew B2.out)
               replace HB := am_ (below_drew1 HB.out)
               refine start_ (n := 25) (S := fun w' => ce_ w' B3 0 (.int .i64 Ba) ∧ ce_ w' B3 1 (.int .i64 Bb) ∧ ce_ w' B3 2 (.int .i64 Bc) ∧ ce_ w' B3 3 (.int .i64 Bd) ∧ ce_ w' B3 4 (.int .i64 Be) ∧ ce_ w' B3 5 (.int .i64 Bf) ∧ ce_ w' B3 6 (.int .i64 Bg) ∧ ce_ w' B3 7 (.int .i64 Bh) ∧ ce_ w' B3 8 (.int .i64 Bi) ∧ ce_ w' B3 9 (.int .i64 Bj) ∧ ce_ w' B3 10 (.slice Bm B6.length Bn) ∧ ce_ w' B3 11 (.slice Bo B7.length Bp) ∧ ce_ w' B3 12 (.slice Bq B8.length Br) ∧ ce_ w' B3 13 (.slice D3 Bk.length Bw) ∧ ce_ w' B5 0 (.int .i64 Ba) ∧ ce_ w' B5 1 (.int .i64 Bb) ∧ ce_ w' B5 2 (.int .i64 Bc) ∧ ce_ w' B5 3 (.int .i64 Bd) ∧ ce_ w' B5 4 (.int .i64 Be) ∧ ce_ w' B5 5 (.int .i64 Bf) ∧ ce_ w' B5 6 (.int .i64 Bg) ∧ ce_ w' B5 7 (.int .i64 Bh) ∧ ce_ w' B5 8 (.int .i64 Bi) ∧ ce_ w' B5 9 (.int .i64 Bj) ∧ ce_ w' B5 10 (.slice Bm B6.length Bn) ∧ ce_ w' B5 11 (.slice Bo B7.length Bp) ∧ ce_ w' B5 12 (.slice Bq B8.length Br) ∧ ce_ w' B5 13 (.slice Bt B4.length Bu)) (ds := []) #[false, false, false, false, false, false, false, false, false, false, false, false, false, false, false, false, false, false, false, false, false, false, false, false, false] (by kernel_rfl) rfl rfl ⟨(blk_cell B2.out 0).trans rfl, (blk_cell B2.out 1).trans rfl, (blk_cell B2.out 2).trans rfl, (blk_cell B2.out 3).trans rfl, (blk_cell B2.out 4).trans rfl, (blk_cell B2.out 5).trans rfl, (blk_cell B2.out 6).trans rfl, (blk_cell B2.out 7).trans rfl, (blk_cell B2.out 8).trans rfl, (blk_cell B2.out 9).trans rfl, (blk_cell B2.out 10).trans rfl, (blk_cell B2.out 11).trans rfl, (blk_cell B2.out 12).trans rfl, (blk_cell B2.out 13).trans rfl, (blk_cell B1.out 0).trans rfl, (blk_cell B1.out 1).trans rfl, (blk_cell B1.out 2).trans rfl, (blk_cell B1.out 3).trans rfl, (blk_cell B1.out 4).trans rfl, (blk_cell B1.out 5).trans rfl, (blk_cell B1.out 6).trans rfl, (blk_cell B1.out 7).trans rfl, (blk_cell B1.out 8).trans rfl, (blk_cell B1.out 9).trans rfl, (blk_cell B1.out 10).trans rfl, (blk_cell B1.out 11).trans rfl, (blk_cell B1.out 12).trans rfl, (blk_cell B1.out 13).trans rfl⟩ (fun hHeld => ?_); refine with_tabW l34_PremiseAfter.tab16 l34_PremiseAfter.bits16 (fun HT_ HW_ => ?_)
               generalize w71.drew = w72 at B0 B9 B1 B2 HB hHeld ⊢
               refine pur_ 2 (some 69) rfl rfl (any_of HT_.out (by kernel_rfl)) ?_
               refine tak_ 0 (some 67) rfl rfl (take_ofW HT_.out HW_.out (by kernel_rfl)) hHeld ?_ (by rintro w' ⟨s0, s1, s2, s3, s4, s5, s6, s7, s8, s9, s10, s11, s12, s13, s14, s15, s16, s17, s18, s19, s20, s21, s22, s23, s24, s25, s26, s27⟩; (first | (refine load_cells_14 (ty := 28) (x := .tmp 2) (g := B5) ?hlo_ ?hx_ Try.underlying28 ?hd_ ?hi_ s14 s15 s16 s17 s18 s19 s20 s21 s22 s23 s24 s25 s26 s27; (case hlo_ => rfl); (case hx_ => rfl); (case hd_ => rfl); (case hi_ => kernel_rfl)) | (refine load_cells_14 (ty := 28) (x := .tmp 8) (g := B3) ?hlo_ ?hx_ Try.underlying28 ?hd_ ?hi_ s0 s1 s2 s3 s4 s5 s6 s7 s8 s9 s10 s11 s12 s13; (case hlo_ => rfl); (case hx_ => rfl); (case hd_ => rfl); (case hi_ => kernel_rfl)) | (go_simp; with_reducible rfl)))
               refine oon_ 1 (some 68) rfl rfl (one_of HT_.out (by kernel_rfl)) (fun K hK => ?_)
               refine gos_ Try.func30 (premise_Last.calls k3 Ba Bb Bc Bd Be Bf Bg Bh Bi Bj _ _ B6 _ _ B7 _ _ B8 _ _ Bk _ _ (Kd.C_below Bx.out HB.out) By.out (Kd.C_below Bz.out HB.out) D0.out (Kd.C_below D1.out HB.out) D2.out (Kd.N_reads' B9.out).2.2 (Kd.N_reads' B9.out).2.1 Jc.out) ?_
               rintro e w73 ⟨rfl, hb⟩
               refine ⟨_, rfl, ?_⟩
               replace B0 := am_ (Kd.V_below B0.out hb)
               replace B9 := am_ (Kd.N_below B9.out hb)
               replace B1 := bkb_ B1 hb
               replace B2 := bkb_ B2 hb
               replace HB := bst_ HB hb
               (try clear hb)
               (try clear hb2)
               (try clear hk)
               (try clear hi)
               refine hK.out _ _ (and_14 B2.out (cells_14 B1.out)) (fun hHeld => ?_)
               clear hK K
               refine nor_ 68 ?_
               refine pur_ 3 (some 70) rfl rfl (any_of HT_.out (by kernel_rfl)) ?_
               refine pur_ 4 (some 71) rfl rfl (any_of HT_.out (by kernel_rfl)) ?_
               refine tak_ 5 (some 72) rfl rfl (take_ofW HT_.out HW_.out (by kernel_rfl)) hHeld ?_ (by rintro w' ⟨s0, s1, s2, s3, s4, s5, s6, s7, s8, s9, s10, s11, s12, s13, s14, s15, s16, s17, s18, s19, s20, s21, s22, s23, s24, s25, s26, s27⟩; (first | (refine load_cells_14 (ty := 28) (x := .tmp 2) (g := B5) ?hlo_ ?hx_ Try.underlying28 ?hd_ ?hi_ s14 s15 s16 s17 s18 s19 s20 s21 s22 s23 s24 s25 s26 s27; (case hlo_ => rfl); (case hx_ => rfl); (case hd_ => rfl); (case hi_ => kernel_rfl)) | (refine load_cells_14 (ty := 28) (x := .tmp 8) (g := B3) ?hlo_ ?hx_ Try.underlying28 ?hd_ ?hi_ s0 s1 s2 s3 s4 s5 s6 s7 s8 s9 s10 s11 s12 s13; (case hlo_ => rfl); (case hx_ => rfl); (case hd_ => rfl); (case hi_ => kernel_rfl)) | (go_simp; with_reducible rfl)))
               refine tak_ 7 (some 74) rfl rfl (take_ofW HT_.out HW_.out (by kernel_rfl)) hHeld ?_ (by rintro w' ⟨s0, s1, s2, s3, s4, s5, s6, s7, s8, s9, s10, s11, s12, s13, s14, s15, s16, s17, s18, s19, s20, s21, s22, s23, s24, s25, s26, s27⟩; (first | (refine load_cells_14 (ty := 28) (x := .tmp 2) (g := B5) ?hlo_ ?hx_ Try.underlying28 ?hd_ ?hi_ s14 s15 s16 s17 s18 s19 s20 s21 s22 s23 s24 s25 s26 s27; (case hlo_ => rfl); (case hx_ => rfl); (case hd_ => rfl); (case hi_ => kernel_rfl)) | (refine load_cells_14 (ty := 28) (x := .tmp 8) (g := B3) ?hlo_ ?hx_ Try.underlying28 ?hd_ ?hi_ s0 s1 s2 s3 s4 s5 s6 s7 s8 s9 s10 s11 s12 s13; (case hlo_ => rfl); (case hx_ => rfl); (case hd_ => rfl); (case hi_ => kernel_rfl)) | (go_simp; with_reducible rfl)))
               refine oon_ 6 (some 73) rfl rfl (one_of HT_.out (by kernel_rfl)) (fun K hK => ?_)
               refine gos_ Try.func34 (premise_All.calls k3 Ba Bb Bc Bd Be Bf Bg Bh Bi Bj _ _ B6 _ _ B7 _ _ B8 _ _ Bk _ _ (Kd.C_below Bx.out HB.out) By.out (Kd.C_below Bz.out HB.out) D0.out (Kd.C_below D1.out HB.out) D2.out (Kd.N_reads' B9.out).2.2 (Kd.N_reads' B9.out).2.1 Lz.out) ?_
               rintro e w74 ⟨rfl, hb⟩
               refine ⟨_, rfl, ?_⟩
               replace B0 := am_ (Kd.V_below B0.out hb)
               replace B9 := am_ (Kd.N_below B9.out hb)
               replace B1 := bkb_ B1 hb
               replace B2 := bkb_ B2 hb
               replace HB := bst_ HB hb
               (try clear hb)
               (try clear hb2)
               (try clear hk)
               (try clear hi)
               refine hK.out _ _ (and_14 B2.out (cells_14 B1.out)) (fun hHeld => ?_)
               clear hK K
               refine nor_ 73 ?_
               refine oon_ 8 (some 75) rfl rfl (one_of HT_.out (by kernel_rfl)) (fun K hK => ?_)
               refine gos_ Try.func34 (premise_All.calls k3 Ba Bb Bc Bd Be Bf Bg Bh Bi Bj _ _ B6 _ _ B7 _ _ B8 _ _ B4 _ _ (Kd.C_below Bx.out HB.out) By.out (Kd.C_below Bz.out HB.out) D0.out (Kd.C_below D1.out HB.out) D2.out (Kd.V_reads' B0.out).2.2 (Kd.V_reads' B0.out).2.1 M0.out) ?_
               rintro e w75 ⟨rfl, hb⟩
               refine ⟨_, rfl, ?_⟩
               replace B0 := am_ (Kd.V_below B0.out hb)
               replace B9 := am_ (Kd.N_below B9.out hb)
               replace B1 := bkb_ B1 hb
               replace B2 := bkb_ B2 hb
               replace HB := bst_ HB hb
               (try clear hb)
               (try clear hb2)
               (try clear hk)
               (try clear hi)
               refine hK.out _ _ (and_14 B2.out (cells_14 B1.out)) (fun hHeld => ?_)
               clear hK K
               refine nor_ 75 ?_
               refine pur_ 9 (some 76) rfl rfl (any_of HT_.out (by kernel_rfl)) ?_
               refine pur_ 10 (some 77) rfl rfl (any_of HT_.out (by kernel_rfl)) ?_
               refine pur_ 11 (some 78) rfl rfl (any_of HT_.out (by kernel_rfl)) ?_
              ·refine tak_ 12 (some 79) rfl rfl (take_ofW HT_.out HW_.out (by kernel_rfl)) hHeld ?_ (by rintro w' ⟨s0, s1, s2, s3, s4, s5, s6, s7, s8, s9, s10, s11, s12, s13, s14, s15, s16, s17, s18, s19, s20, s21, s22, s23, s24, s25, s26, s27⟩; (first | (refine load_cells_14 (ty := 28) (x := .tmp 2) (g := B5) ?hlo_ ?hx_ Try.underlying28 ?hd_ ?hi_ s14 s15 s16 s17 s18 s19 s20 s21 s22 s23 s24 s25 s26 s27; (case hlo_ => rfl); (case hx_ => rfl); (case hd_ => rfl); (case hi_ => kernel_rfl)) | (refine load_cells_14 (ty := 28) (x := .tmp 8) (g := B3) ?hlo_ ?hx_ Try.underlying28 ?hd_ ?hi_ s0 s1 s2 s3 s4 s5 s6 s7 s8 s9 s10 s11 s12 s13; (case hlo_ => rfl); (case hx_ => rfl); (case hd_ => rfl); (case hi_ => kernel_rfl)) | (go_simp; with_reducible rfl)))
               refine tak_ 14 (some 81) rfl rfl (take_ofW HT_.out HW_.out (by kernel_rfl)) hHeld ?_ (by rintro w' ⟨s0, s1, s2, s3, s4, s5, s6, s7, s8, s9, s10, s11, s12, s13, s14, s15, s16, s17, s18, s19, s20, s21, s22, s23, s24, s25, s26, s27⟩; (first | (refine load_cells_14 (ty := 28) (x := .tmp 2) (g := B5) ?hlo_ ?hx_ Try.underlying28 ?hd_ ?hi_ s14 s15 s16 s17 s18 s19 s20 s21 s22 s23 s24 s25 s26 s27; (case hlo_ => rfl); (case hx_ => rfl); (case hd_ => rfl); (case hi_ => kernel_rfl)) | (refine load_cells_14 (ty := 28) (x := .tmp 8) (g := B3) ?hlo_ ?hx_ Try.underlying28 ?hd_ ?hi_ s0 s1 s2 s3 s4 s5 s6 s7 s8 s9 s10 s11 s12 s13; (case hlo_ => rfl); (case hx_ => rfl); (case hd_ => rfl); (case hi_ => kernel_rfl)) | (go_simp; with_reducible rfl)))
               refine oon_ 13 (some 80) rfl rfl (one_of HT_.out (by kernel_rfl)) (fun K hK => ?_)
               refine gos_ Try.func32 (premise_Settled.calls k3 Ba Bb Bc Bd Be Bf Bg Bh Bi Bj _ _ B6 _ _ B7 _ _ B8 _ _ Bk _ _ (Kd.C_below Bx.out HB.out) By.out (Kd.C_below Bz.out HB.out) D0.out (Kd.C_below D1.out HB.out) D2.out (Kd.N_reads' B9.out).2.2 (Kd.N_reads' B9.out).2.1 M1.out) ?_
               rintro e w76 ⟨rfl, hb⟩
               refine ⟨_, rfl, ?_⟩
               replace B0 := am_ (Kd.V_below B0.out hb)
               replace B9 := am_ (Kd.N_below B9.out hb)
               replace B1 := bkb_ B1 hb
               replace B2 := bkb_ B2 hb
               replace HB := bst_ HB hb
               (try clear hb)
               (try clear hb2)
               (try clear hk)
               (try clear hi)
               refine hK.out _ _ (and_14 B2.out (cells_14 B1.out)) (fun hHeld => ?_)
               clear hK K
               refine nor_ 80 ?_
               refine oon_ 15 (some 82) rfl rfl (one_of HT_.out (by kernel_rfl)) (fun K hK => ?_)
               refine gos_ Try.func32 (premise_Settled.calls k3 Ba Bb Bc Bd Be Bf Bg Bh Bi Bj _ _ B6 _ _ B7 _ _ B8 _ _ B4 _ _ (Kd.C_below Bx.out HB.out) By.out (Kd.C_below Bz.out HB.out) D0.out (Kd.C_below D1.out HB.out) D2.out (Kd.V_reads' B0.out).2.2 (Kd.V_reads' B0.out).2.1 M2.out) ?_
               rintro e w77 ⟨rfl, hb⟩
               refine ⟨_, rfl, ?_⟩
               replace B0 := am_ (Kd.V_below B0.out hb)
               replace B9 := am_ (Kd.N_below B9.out hb)
               replace B1 := bkb_ B1 hb
               replace B2 := bkb_ B2 hb
               replace HB := bst_ HB hb
               (try clear hb)
               (try clear hb2)
               (try clear hk)
               (try clear hi)
               refine hK.out _ _ (and_14 B2.out (cells_14 B1.out)) (fun hHeld => ?_)
               clear hK K
               refine nor_ 82 ?_
               refine pur_ 16 (some 83) rfl rfl (any_of HT_.out (by kernel_rfl)) ?_
               refine pur_ 17 (some 84) rfl rfl (any_of HT_.out (by kernel_rfl)) ?_
               refine pur_ 18 (some 85) rfl rfl (any_of HT_.out (by kernel_rfl)) ?_
               refine puu_ 19 (some 86) rfl rfl (any_of HT_.out (by kernel_rfl)) ?_
               refine puu_ 20 (some 87) rfl rfl (any_of HT_.out (by kernel_rfl)) ?_
               refine puu_ 21 (some 88) rfl rfl (any_of HT_.out (by kernel_rfl)) ?_
               refine puu_ 22 (some 89) rfl rfl (any_of HT_.out (by kernel_rfl)) ?_
               refine puu_ 23 (some 90) rfl rfl (any_of HT_.out (by kernel_rfl)) ?_
               refine pur_ 24 (some 91) rfl rfl (any_of HT_.out (by kernel_rfl)) ?_
               refine done_ (done_of HT_.out (by kernel_rfl)) ?_
               try go_wp2
               go_meet
               case rel => exact ⟨_, (true), (by first | rfl | (simp; done) | (simp [*]; done)), H', ⟨by have := Eu.out; have := E0.out; have := G3.out; first | omega | exact Nat.le_refl _⟩, ⟨by (with_reducible repeat (first | apply Kd.V_alloc | apply Kd.V_drewN | apply Kd.V_drew)); exact B0.out⟩, ⟨by (with_reducible repeat (first | apply Kd.N_alloc | apply Kd.N_drewN | apply Kd.N_drew)); exact B9.out⟩, ⟨by (with_reducible repeat (first | apply kn_ | apply kd_ | apply ka_)); exact B1.out⟩, ⟨by (with_reducible repeat (first | apply kn_ | apply kd_ | apply ka_)); exact B2.out⟩, ⟨by repeat (first | (with_reducible first | exact HB.out | apply ba_ | apply bn_ | apply bd_ | refine bs_ ?_ D4.out | refine bs_ ?_ D8.out) | exact HB.out)⟩⟩
              ·refine puu_ 12 (some 79) rfl rfl (any_of HT_.out (by kernel_rfl)) ?_
               refine puu_ 13 (some 80) rfl rfl (any_of HT_.out (by kernel_rfl)) ?_
               refine puu_ 14 (some 81) rfl rfl (any_of HT_.out (by kernel_rfl)) ?_
               refine puu_ 15 (some 82) rfl rfl (any_of HT_.out (by kernel_rfl)) ?_
               refine puu_ 16 (some 83) rfl rfl (any_of HT_.out (by kernel_rfl)) ?_
               refine pur_ 17 (some 84) rfl rfl (any_of HT_.out (by kernel_rfl)) ?_
               refine pur_ 18 (some 85) rfl rfl (any_of HT_.out (by kernel_rfl)) ?_
               refine puu_ 19 (some 86) rfl rfl (any_of HT_.out (by kernel_rfl)) ?_
               refine puu_ 20 (some 87) rfl rfl (any_of HT_.out (by kernel_rfl)) ?_
               refine puu_ 21 (some 88) rfl rfl (any_of HT_.out (by kernel_rfl)) ?_
               refine puu_ 22 (some 89) rfl rfl (any_of HT_.out (by kernel_rfl)) ?_
               refine puu_ 23 (some 90) rfl rfl (any_of HT_.out (by kernel_rfl)) ?_
               refine pur_ 24 (some 91) rfl rfl (any_of HT_.out (by kernel_rfl)) ?_
               refine done_ (done_of HT_.out (by kernel_rfl)) ?_
               try go_wp2
               go_meet
               case rel => exact ⟨_, (true), (by first | rfl | (simp; done) | (simp [*]; done)), H', ⟨by have := Eu.out; have := E0.out; have := G3.out; first | omega | exact Nat.le_refl _⟩, ⟨by (with_reducible repeat (first | apply Kd.V_alloc | apply Kd.V_drewN | apply Kd.V_drew)); exact B0.out⟩, ⟨by (with_reducible repeat (first | apply Kd.N_alloc | apply Kd.N_drewN | apply Kd.N_drew)); exact B9.out⟩, ⟨by (with_reducible repeat (first | apply kn_ | apply kd_ | apply ka_)); exact B1.out⟩, ⟨by (with_reducible repeat (first | apply kn_ | apply kd_ | apply ka_)); exact B2.out⟩, ⟨by repeat (first | (with_reducible first | exact HB.out | apply ba_ | apply bn_ | apply bd_ | refine bs_ ?_ D4.out | refine bs_ ?_ D8.out) | exact HB.out)⟩⟩
             ·rw [if_neg Fa] at H
              have Dg : (Di == D7) = false := beq_eq_false_iff_ne.mpr Fa
              have Fb : (Di != D7) = true := bne_iff_ne.mpr Fa
              (first | rw [Dg] | (simp only [i64_w, i32_w]; rw [Dg]) | skip)
              have H' := am_ H
              clear H
              try go_wp2
              have Du : Aside0 (Kd.V k44 44 (w48.setCell ⟨B3, 13, none⟩ (.slice D3 Bk.length Bw)) w.heap.size (fun k_ => (Bs k_ ∨ w.heap.size ≤ k_) ∧ some k_ ≠ (.slice D3 Bk.length Bw : Value).ownBlock ∧ k_ ≠ B5 ∧ k_ ≠ B3) (.slice Bt B4.length Bu) B4) := ⟨by (with_reducible repeat (first | apply Kd.V_alloc | apply Kd.V_drewN | apply Kd.V_drew)); exact Kd.V_mono (Kd.V_far (p := ⟨B3, 13, none⟩) (Kd.V_mono B0.out (fun k_ hk => (⟨hk, hk.1.2.2⟩ : _ ∧ k_ ≠ B3))) (fun _ hk => hk.2) (.slice D3 Bk.length Bw)) (fun _ hk => ⟨hk.1.1.1, ⟨hk.1.2, ⟨hk.1.1.2.1, hk.1.1.2.2⟩⟩⟩)⟩
              have Dv : Aside0 (Kd.N k44 44 (w48.setCell ⟨B3, 13, none⟩ (.slice D3 Bk.length Bw)) w.heap.size (fun k_ => (Bs k_ ∨ w.heap.size ≤ k_) ∧ k_ ≠ B5 ∧ k_ ≠ B3) (.slice D3 Bk.length Bw) Bk) := ⟨by (with_reducible repeat (first | apply Kd.N_alloc | apply Kd.N_drewN | apply Kd.N_drew)); exact Kd.N_mono (Kd.N_far (p := ⟨B3, 13, none⟩) (Kd.N_mono B9.out (fun k_ hk => (⟨hk, hk.2.2⟩ : _ ∧ k_ ≠ B3))) (fun _ hk => hk.2) (.slice D3 Bk.length Bw)) (fun _ hk => ⟨hk.1.1, ⟨hk.1.2.1, hk.1.2.2⟩⟩)⟩
              have Dw : Aside0 ((w48.setCell ⟨B3, 13, none⟩ (.slice D3 Bk.length Bw)).heap[B5]? = some (.cells #[.int .i64 Ba, .int .i64 Bb, .int .i64 Bc, .int .i64 Bd, .int .i64 Be, .int .i64 Bf, .int .i64 Bg, .int .i64 Bh, .int .i64 Bi, .int .i64 Bj, .slice Bm B6.length Bn, .slice Bo B7.length Bp, .slice Bq B8.length Br, .slice Bt B4.length Bu] 28 (0, 0))) := ⟨by (with_reducible repeat (first | apply kn_ | apply kd_ | apply ka_)); refine blk_far ?_ D6.out _; (with_reducible repeat (first | apply kn_ | apply kd_ | apply ka_)); exact B1.out⟩
              have Dx : Aside0 ((w48.setCell ⟨B3, 13, none⟩ (.slice D3 Bk.length Bw)).heap[B3]? = some (.cells #[.int .i64 Ba, .int .i64 Bb, .int .i64 Bc, .int .i64 Bd, .int .i64 Be, .int .i64 Bf, .int .i64 Bg, .int .i64 Bh, .int .i64 Bi, .int .i64 Bj, .slice Bm B6.length Bn, .slice Bo B7.length Bp, .slice Bq B8.length Br, .slice D3 Bk.length Bw] 28 (0, 0))) := ⟨by (with_reducible repeat (first | apply kn_ | apply kd_ | apply ka_)); refine blk_put (cs := #[.int .i64 Ba, .int .i64 Bb, .int .i64 Bc, .int .i64 Bd, .int .i64 Be, .int .i64 Bf, .int .i64 Bg, .int .i64 Bh, .int .i64 Bi, .int .i64 Bj, .slice Bm B6.length Bn, .slice Bo B7.length Bp, .slice Bq B8.length Br, .slice Bt B4.length Bu]) ?_ 13 _ rfl; (with_reducible repeat (first | apply kn_ | apply kd_ | apply ka_)); exact B2.out⟩
              have Dy : Aside0 (Below w.heap.size w (w48.setCell ⟨B3, 13, none⟩ (.slice D3 Bk.length Bw))) := ⟨by repeat (first | (with_reducible first | exact HB.out | apply ba_ | apply bn_ | apply bd_ | refine bs_ ?_ D4.out | refine bs_ ?_ D8.out) | exact HB.out)⟩
              (try clear B0)
              (try clear B9)
              (try clear B1)
              (try clear B2)
              (try clear HB)
              generalize (w48.setCell ⟨B3, 13, none⟩ (.slice D3 Bk.length Bw)) = w83 at Du Dv Dw Dx Dy ⊢
              have B0 := Du
              have B9 := Dv
              have B1 := Dw
              have B2 := Dx
              have HB := Dy
              clear Du Dv Dw Dx Dy
              replace B0 := am_ (Kd.V_drew B0.out)
              replace B9 := am_ (Kd.N_drew B9.out)
              replace B1 := am_ (blk_drew B1.out)
              replace B2 := am_ (blk_drew B2.out)
              replace HB := am_ (below_drew1 HB.out)
              refine start_ (n := 25) (S := fun w' => ce_ w' B3 0 (.int .i64 Ba) ∧ ce_ w' B3 1 (.int .i64 Bb) ∧ ce_ w' B3 2 (.int .i64 Bc) ∧ ce_ w' B3 3 (.int .i64 Bd) ∧ ce_ w' B3 4 (.int .i64 Be) ∧ ce_ w' B3 5 (.int .i64 Bf) ∧ ce_ w' B3 6 (.int .i64 Bg) ∧ ce_ w' B3 7 (.int .i64 Bh) ∧ ce_ w' B3 8 (.int .i64 Bi) ∧ ce_ w' B3 9 (.int .i64 Bj) ∧ ce_ w' B3 10 (.slice Bm B6.length Bn) ∧ ce_ w' B3 11 (.slice Bo B7.length Bp) ∧ ce_ w' B3 12 (.slice Bq B8.length Br) ∧ ce_ w' B3 13 (.slice D3 Bk.length Bw)) (ds := []) #[false, false, false, false, false, false, false, false, false, false, false, false, false, false, false, false, false, false, false, false, false, false, false, false, false] (by kernel_rfl) rfl rfl ⟨(blk_cell B2.out 0).trans rfl, (blk_cell B2.out 1).trans rfl, (blk_cell B2.out 2).trans rfl, (blk_cell B2.out 3).trans rfl, (blk_cell B2.out 4).trans rfl, (blk_cell B2.out 5).trans rfl, (blk_cell B2.out 6).trans rfl, (blk_cell B2.out 7).trans rfl, (blk_cell B2.out 8).trans rfl, (blk_cell B2.out 9).trans rfl, (blk_cell B2.out 10).trans rfl, (blk_cell B2.out 11).trans rfl, (blk_cell B2.out 12).trans rfl, (blk_cell B2.out 13).trans rfl⟩ (fun hHeld => ?_); refine with_tabW l34_PremiseAfter.tab16 l34_PremiseAfter.bits16 (fun HT_ HW_ => ?_)
              generalize w83.drew = w84 at B0 B9 B1 B2 HB hHeld ⊢
              refine pur_ 2 (some 69) rfl rfl (any_of HT_.out (by kernel_rfl)) ?_
              refine tak_ 0 (some 67) rfl rfl (take_ofW HT_.out HW_.out (by kernel_rfl)) hHeld ?_ (by rintro w' ⟨s0, s1, s2, s3, s4, s5, s6, s7, s8, s9, s10, s11, s12, s13⟩; (first | (refine load_cells_14 (ty := 28) (x := .tmp 8) (g := B3) ?hlo_ ?hx_ Try.underlying28 ?hd_ ?hi_ s0 s1 s2 s3 s4 s5 s6 s7 s8 s9 s10 s11 s12 s13; (case hlo_ => rfl); (case hx_ => rfl); (case hd_ => rfl); (case hi_ => kernel_rfl)) | (go_simp; with_reducible rfl)))
              refine oon_ 1 (some 68) rfl rfl (one_of HT_.out (by kernel_rfl)) (fun K hK => ?_)
              refine gos_ Try.func30 (premise_Last.calls k3 Ba Bb Bc Bd Be Bf Bg Bh Bi Bj _ _ B6 _ _ B7 _ _ B8 _ _ Bk _ _ (Kd.C_below Bx.out HB.out) By.out (Kd.C_below Bz.out HB.out) D0.out (Kd.C_below D1.out HB.out) D2.out (Kd.N_reads' B9.out).2.2 (Kd.N_reads' B9.out).2.1 Jc.out) ?_
              rintro e w85 ⟨rfl, hb⟩
              refine ⟨_, rfl, ?_⟩
              replace B0 := am_ (Kd.V_below B0.out hb)
              replace B9 := am_ (Kd.N_below B9.out hb)
              replace B1 := bkb_ B1 hb
              replace B2 := bkb_ B2 hb
              replace HB := bst_ HB hb
              (try clear hb)
              (try clear hb2)
              (try clear hk)
              (try clear hi)
              refine hK.out _ _ (cells_14 B2.out) (fun hHeld => ?_)
              clear hK K
              refine nor_ 68 ?_
              refine pur_ 3 (some 70) rfl rfl (any_of HT_.out (by kernel_rfl)) ?_
              refine pur_ 4 (some 71) rfl rfl (any_of HT_.out (by kernel_rfl)) ?_
              refine puu_ 5 (some 72) rfl rfl (any_of HT_.out (by kernel_rfl)) ?_
              refine puu_ 6 (some 73) rfl rfl (any_of HT_.out (by kernel_rfl)) ?_
              refine puu_ 7 (some 74) rfl rfl (any_of HT_.out (by kernel_rfl)) ?_
              refine puu_ 8 (some 75) rfl rfl (any_of HT_.out (by kernel_rfl)) ?_
              refine puu_ 9 (some 76) rfl rfl (any_of HT_.out (by kernel_rfl)) ?_
              refine pur_ 10 (some 77) rfl rfl (any_of HT_.out (by kernel_rfl)) ?_
              refine pur_ 11 (some 78) rfl rfl (any_of HT_.out (by kernel_rfl)) ?_
              refine puu_ 12 (some 79) rfl rfl (any_of HT_.out (by kernel_rfl)) ?_
              refine puu_ 13 (some 80) rfl rfl (any_of HT_.out (by kernel_rfl)) ?_
              refine puu_ 14 (some 81) rfl rfl (any_of HT_.out (by kernel_rfl)) ?_
              refine puu_ 15 (some 82) rfl rfl (any_of HT_.out (by kernel_rfl)) ?_
              refine puu_ 16 (some 83) rfl rfl (any_of HT_.out (by kernel_rfl)) ?_
              refine pur_ 17 (some 84) rfl rfl (any_of HT_.out (by kernel_rfl)) ?_
              refine pur_ 18 (some 85) rfl rfl (any_of HT_.out (by kernel_rfl)) ?_
              refine puu_ 19 (some 86) rfl rfl (any_of HT_.out (by kernel_rfl)) ?_
              refine puu_ 20 (some 87) rfl rfl (any_of HT_.out (by kernel_rfl)) ?_
              refine puu_ 21 (some 88) rfl rfl (any_of HT_.out (by kernel_rfl)) ?_
              refine puu_ 22 (some 89) rfl rfl (any_of HT_.out (by kernel_rfl)) ?_
              refine puu_ 23 (some 90) rfl rfl (any_of HT_.out (by kernel_rfl)) ?_
              refine pur_ 24 (some 91) rfl rfl (any_of HT_.out (by kernel_rfl)) ?_
              refine done_ (done_of HT_.out (by kernel_rfl)) ?_
              try go_wp2
              go_meet
              case rel => exact ⟨_, (true), (by first | rfl | (simp; done) | (simp [*]; done)), H', ⟨by have := Eu.out; have := E0.out; have := G3.out; first | omega | exact Nat.le_refl _⟩, ⟨by (with_reducible repeat (first | apply Kd.V_alloc | apply Kd.V_drewN | apply Kd.V_drew)); exact B0.out⟩, ⟨by (with_reducible repeat (first | apply Kd.N_alloc | apply Kd.N_drewN | apply Kd.N_drew)); exact B9.out⟩, ⟨by (with_reducible repeat (first | apply kn_ | apply kd_ | apply ka_)); exact B1.out⟩, ⟨by (with_reducible repeat (first | apply kn_ | apply kd_ | apply ka_)); exact B2.out⟩, ⟨by repeat (first | (with_reducible first | exact HB.out | apply ba_ | apply bn_ | apply bd_ | refine bs_ ?_ D4.out | refine bs_ ?_ D8.out) | exact HB.out)⟩⟩
            case rest =>
             clear Fl
             try clear p2
             try clear c3
             try clear c5
             try clear c30
             try clear G2
             try clear Fa
             try clear Dg
             try clear Fb
             try clear Fc
             try clear Fd
             try clear Fe
             obtain ⟨kq, Dn, rfl, HA, Ml, B0, Bl, B1, B2, HB⟩ := hcut
             cases kq with
             | zero => exact absurd HA.out (by simp [l34_PremiseAfter.j3])
             | succ E1 =>
              have H := HA.out
              clear HA
              simp only [l34_PremiseAfter.j3] at H
              by_cases Gv : Dn = true
              ·subst Gv
               rw [if_pos rfl] at H
               exact absurd H (by simp)
              ·replace Gv := Bool.eq_false_iff.mpr Gv
               subst Gv
               rw [if_neg (show ¬ (false = true) by decide)] at H
               obtain ⟨y422, hy422⟩ : ∃ y_ : List (S48), y_ = (([(⟨0, a1⟩ : S48)] : List (S48))) := ⟨_, rfl⟩
               replace H : (if 0 ≤ (B4.length : Int) then (if (B4.length : Int) < (Bk.length : Int) then ((premise_Last.f E1 Ba Bb Bc Bd Be Bf Bg Bh Bi Bj B6 B7 B8 (Bk.set ((B4.length : Int) : Int).toNat (⟨([] : List Int), ([] : List Int), ([] : List (S74)), y422, ([] : List (S74)), ([] : List (S81))⟩ : S44))).bind fun Do => (if Do = (B4.length : Int) then ((l34_known.f E1).bind fun Ew => (some Ew)) else (none))) else (none)) else (none)) = some r := by first | (rw [hy422]; with_reducible exact H) | (have Dr := (Option.bind_some _ _).symm.trans H; rw [hy422]; with_reducible exact Dr) | (have Dr := (Option.bind_some _ _).symm.trans H; with_reducible exact Dr) | with_reducible exact H | (rw [hy422]; exact H) | exact H
               have Ff := am_ hy422
               clear hy422
               by_cases Gw : 0 ≤ (B4.length : Int)
               ·rw [if_pos Gw] at H
                have M3 : decide (0 ≤ (B4.length : Int)) = true := decide_eq_true Gw
                have M4 : decide (0 ≤ B4.length) = true := decide_eq_true (by omega)
                clear Gw
                by_cases Gg : (B4.length : Int) < (Bk.length : Int)
                ·rw [if_pos Gg] at H
                 have M5 : decide ((B4.length : Int) < (Bk.length : Int)) = true := decide_eq_true Gg
                 have M6 : decide (B4.length < Bk.length) = true := decide_eq_true (Int.ofNat_lt.mp Gg)
                 clear Gg
                 obtain ⟨y425, hy425⟩ : ∃ y_ : List (S44), y_ = (Bk.set ((B4.length : Int) : Int).toNat (⟨([] : List Int), ([] : List Int), ([] : List (S74)), y422, ([] : List (S74)), ([] : List (S81))⟩ : S44)) := ⟨_, rfl⟩
                 replace H : ((premise_Last.f E1 Ba Bb Bc Bd Be Bf Bg Bh Bi Bj B6 B7 B8 y425).bind fun Do => (if Do = (B4.length : Int) then ((l34_known.f E1).bind fun Ew => (some Ew)) else (none))) = some r := by first | (rw [hy425]; with_reducible exact H) | (have Dr := (Option.bind_some _ _).symm.trans H; rw [hy425]; with_reducible exact Dr) | (have Dr := (Option.bind_some _ _).symm.trans H; with_reducible exact Dr) | with_reducible exact H | (rw [hy425]; exact H) | exact H
                 have Gh := am_ hy425
                 clear hy425
                 obtain ⟨Do, Mm, H⟩ := bes_ H
                 try dsimp only at H
                 by_cases Fn : Do = (B4.length : Int)
                 ·rw [if_pos Fn] at H
                  have Gi : (Do == (B4.length : Int)) = true := beq_iff_eq.mpr Fn
                  have Gj : (Do != (B4.length : Int)) = false := bne_eq_false_iff_eq.mpr Fn
                  clear Fn
                  obtain ⟨Ew, Mn, H⟩ := bes_ H
                  try dsimp only at H
                  obtain rfl := Option.some.inj H
                  have M7 := Df.out
                  have M8 := D6.out
                  have M9 := cells_14 B2.out
                  have Ma := frozen_14 B2.out
                  have Mb := cells_14 B1.out
                  have Mc := frozen_14 B1.out
                  try go_wp2_with (first | ((with_reducible refine gate_load (t := 28) (x := .tmp 2) rfl ?_); refine lrg_ 28 (.tmp 2) B5 28 (by (with_reducible repeat (first | apply kn_ | apply kd_ | apply ka_)); with_reducible exact B1.out) Try.underlying28 ?_) | ((with_reducible refine gate_load (t := 28) (x := .tmp 8) rfl ?_); refine lrg_ 28 (.tmp 8) B3 28 (by (with_reducible repeat (first | apply kn_ | apply kd_ | apply ka_)); with_reducible exact B2.out) Try.underlying28 ?_) | ((with_reducible refine gate_dst (N := 99) rfl ?_); (try (refine gate_guard (by rfl) ?_; dsimp only)); refine Kd.R_lit k48 _ 48 ?hg (N := 99) ?hd (xs := ([(⟨0, a1⟩ : S48)] : List (S48))) (inner := [.int .i64 0, .string a1]) (ok := fun _ => True) (okp := fun _ => True) ?hr ?hp (fun _ hk => hk) trivial (Below.refl _ _) (Nat.le_refl _) (by simp) ?_; (case hd => rfl); (case hg => rfl); (case hr => first | (go_simp; done) | (go_simp; rfl)); (case hp => exact (Reps.c2 (show Kd.M k48 _ _ _ (⟨0, a1⟩ : S48) [.int .i64 0, .string a1] from (k48_mkM _ _ _ (⟨0, a1⟩ : S48) )) (Reps.none _ _))); intro v423 w96 Ds hb hg_ hnew_; clear hg_ hnew_; (first | rw [← Ff.out] at Ds | (simp only [Int.reduceToNat] at Ds; rw [← Ff.out] at Ds)); have Gx := below_of hb (by repeat (first | (with_reducible first | exact HB.out | apply ba_ | apply bn_ | apply bd_ | refine bs_ ?_ D4.out | refine bs_ ?_ D8.out) | exact HB.out)); replace B0 := am_ (Kd.V_elder' (by (with_reducible repeat (first | apply Kd.V_alloc | apply Kd.V_drewN | apply Kd.V_drew)); exact B0.out) (Kd.R_base Ds) hb); replace Bl := am_ (Kd.N_elder' (by (with_reducible repeat (first | apply Kd.N_alloc | apply Kd.N_drewN | apply Kd.N_drew)); exact Bl.out) (Kd.R_base Ds) hb); have Dz := am_ (Kd.R_lower (Kd.R_newM (M := fun k_ => (w.heap.size ≤ k_)) Ds (below_size Gx) (fun k_ h_ => h_)) (below_size Gx)); replace B1 := am_ (blk_below (g := B5) (o := .cells #[.int .i64 Ba, .int .i64 Bb, .int .i64 Bc, .int .i64 Bd, .int .i64 Be, .int .i64 Bf, .int .i64 Bg, .int .i64 Bh, .int .i64 Bi, .int .i64 Bj, .slice Bm B6.length Bn, .slice Bo B7.length Bp, .slice Bq B8.length Br, .slice Bt B4.length Bu] 28 (0, 0)) (by (with_reducible repeat (first | apply kn_ | apply kd_ | apply ka_)); exact B1.out) hb); replace B2 := am_ (blk_below (g := B3) (o := .cells #[.int .i64 Ba, .int .i64 Bb, .int .i64 Bc, .int .i64 Bd, .int .i64 Be, .int .i64 Bf, .int .i64 Bg, .int .i64 Bh, .int .i64 Bi, .int .i64 Bj, .slice Bm B6.length Bn, .slice Bo B7.length Bp, .slice Bq B8.length Br, .slice D3 Bk.length Bw] 28 (0, 0)) (by (with_reducible repeat (first | apply kn_ | apply kd_ | apply ka_)); exact B2.out) hb); replace HB := am_ (below_step Gx hb); clear Gx; clear hb Ds; obtain ⟨Ex, Ey, Jd⟩ := Kd.R_slice Dz.out; subst Jd; have Je : 0 ≤ ((B4.length : Int) : Int) := of_decide_eq_true (by first | (with_reducible assumption) | assumption); have Jf : ((B4.length : Int) : Int) < ((Bk.length : Int) : Int) := of_decide_eq_true (by first | (with_reducible assumption) | assumption); obtain ⟨D5, Mo, Gk, Gl, Jg, Mp, Gm⟩ := Kd.N_form Bl.out (by omega); (first | cases Gk | (injection Gk with ea_ en_ ec_; (first | subst ea_ | (injection ea_ with ea_; subst ea_)); subst ec_; clear en_)); have E2 := am_ Gl; have Mq := am_ Gm; clear Gl Jg Gm; obtain ⟨Mr, Gn, Go, Dc, Dd⟩ := Kd.N_elem Bl.out z44 ((B4.length : Int) : Int) Je Jf; obtain ⟨Fo, Fp, Fq, Fr, Fs, Ft, Fu, Fv, Fw, Fx, Fy, Fz, rfl, Jh, Ji, Jj, Jk, Jl, Jm, Jn, Jo, Jp, Jq, Jr, Js⟩ := k44_openF Go; have Jt : w96.cell? ⟨D5, ((B4.length : Int) : Int).toNat * 6, none⟩ = some (.slice Fo ((rd_T44 Bk (B4.length : Int)).f0).length Fp) := Dc 0 _ rfl; have Ju : w96.cell? ⟨D5, ((B4.length : Int) : Int).toNat * 6 + 1, none⟩ = some (.slice Fq ((rd_T44 Bk (B4.length : Int)).f1).length Fr) := Dc 1 _ rfl; have Jv : w96.cell? ⟨D5, ((B4.length : Int) : Int).toNat * 6 + 2, none⟩ = some (.slice Fs ((rd_T44 Bk (B4.length : Int)).f2).length Ft) := Dc 2 _ rfl; have Jw : w96.cell? ⟨D5, ((B4.length : Int) : Int).toNat * 6 + 3, none⟩ = some (.slice Fu ((rd_T44 Bk (B4.length : Int)).f3).length Fv) := Dc 3 _ rfl; have Jx : w96.cell? ⟨D5, ((B4.length : Int) : Int).toNat * 6 + 4, none⟩ = some (.slice Fw ((rd_T44 Bk (B4.length : Int)).f4).length Fx) := Dc 4 _ rfl; have Jy : w96.cell? ⟨D5, ((B4.length : Int) : Int).toNat * 6 + 5, none⟩ = some (.slice Fy ((rd_T44 Bk (B4.length : Int)).f5).length Fz) := Dc 5 _ rfl; have Jz : w96.frozen? ⟨D5, ((B4.length : Int) : Int).toNat * 6, none⟩ = false := Dd 0; have L0 : w96.frozen? ⟨D5, ((B4.length : Int) : Int).toNat * 6 + 1, none⟩ = false := Dd 1; have L1 : w96.frozen? ⟨D5, ((B4.length : Int) : Int).toNat * 6 + 2, none⟩ = false := Dd 2; have L2 : w96.frozen? ⟨D5, ((B4.length : Int) : Int).toNat * 6 + 3, none⟩ = false := Dd 3; have L3 : w96.frozen? ⟨D5, ((B4.length : Int) : Int).toNat * 6 + 4, none⟩ = false := Dd 4; have L4 : w96.frozen? ⟨D5, ((B4.length : Int) : Int).toNat * 6 + 5, none⟩ = false := Dd 5; clear Gn Dc Dd Go; replace Je := eq_true Je; replace Jf := eq_true Jf; have n_ := am_ (Kd.N_mono (ok' := (fun k_ => (Bs k_ ∨ w.heap.size ≤ k_) ∧ some k_ ≠ (.slice Ex y422.length Ey : Value).ownBlock ∧ k_ ≠ B5 ∧ k_ ≠ B3)) Bl.out (fun k_ hk => ⟨hk.1.1, ⟨hk.2, ⟨hk.1.2.1, hk.1.2.2⟩⟩⟩)); clear Bl; have Bl := n_; clear n_; have Gp := am_ (show Kd.N k44 44 w96 w.heap.size (fun k_ => (Bs k_ ∨ w.heap.size ≤ k_) ∧ k_ ≠ B5 ∧ k_ ≠ B3) (.slice (some ⟨D5, 0, none⟩) Bk.length Bw) Bk from (by (with_reducible repeat (first | apply Kd.N_alloc | apply Kd.N_drewN | apply Kd.N_drew)); exact Kd.N_mono Bl.out (fun _ hk => ⟨hk.1, ⟨hk.2.2.1, hk.2.2.2⟩⟩))); obtain ⟨Ms, Fg, Gq, Da, De⟩ := Kd.N_elem Gp.out z44 ((B4.length : Int) : Int) (of_decide_eq_true (by first | (with_reducible assumption) | assumption)) (by have h_ : ((B4.length : Int) : Int) < ((Bk.length : Int) : Int) := of_decide_eq_true (by first | (with_reducible assumption) | assumption); first | exact h_ | (have e_ := (Kd.N_reads' Bl.out).1; omega) | simpa using h_); obtain ⟨L5, L6, L7, L8, L9, La, Lb, Lc, Ld, Le, Lf, Lg, rfl, Lh, Li, Lj, Lk, Ll, Lm, Ln, Lo, Lp, Lq, Lr, Ls⟩ := k44_openF Gq; have G0 := Kd.N_seg Gp.out ((B4.length : Int) : Int) (of_decide_eq_true (by first | (with_reducible assumption) | assumption)) (by have h_ : ((B4.length : Int) : Int) < ((Bk.length : Int) : Int) := of_decide_eq_true (by first | (with_reducible assumption) | assumption); first | exact h_ | (have e_ := (Kd.N_reads' Bl.out).1; omega) | simpa using h_) (seg := [.slice none 0 0, .slice none 0 0, .slice none 0 0, .slice Ex y422.length Ey, .slice none 0 0, .slice none 0 0]) (j := 0) Fg Da (show 6 ≤ 6 from by decide) (x' := (⟨([] : List Int), ([] : List Int), ([] : List (S74)), y422, ([] : List (S74)), ([] : List (S81))⟩ : S44)) (k44_mkF _ _ (⟨([] : List Int), ([] : List Int), ([] : List (S74)), y422, ([] : List (S74)), ([] : List (S81))⟩ : S44) (Nat.le_refl _) (Kd.F_nil _ _ _) (Nat.le_refl _) (Kd.F_nil _ _ _) (Nat.le_refl _) (Kd.F_nil _ _ _) (Kd.R_reads' (Kd.R_mono (ok' := (fun k_ => ((fun k_ => (Bs k_ ∨ w.heap.size ≤ k_) ∧ k_ ≠ B5 ∧ k_ ≠ B3)) k_ ∧ k_ ≠ D5)) (Kd.R_types (Kd.R_types (Kd.R_apart' (Dz.out) (Kd.N_typed Bl.out) (by decide)) B1.out (by decide)) B2.out (by decide)) (fun k_ hk => ⟨⟨(.inr (hk.1.1.1.1)), ⟨hk.1.2, hk.2⟩⟩, fun e_ => (hk.1.1.2) (by rw [e_]; rfl)⟩))).2.1 (Kd.R_F (Kd.R_mono (ok' := (fun k_ => ((fun k_ => (Bs k_ ∨ w.heap.size ≤ k_) ∧ k_ ≠ B5 ∧ k_ ≠ B3)) k_ ∧ k_ ≠ D5)) (Kd.R_types (Kd.R_types (Kd.R_apart' (Dz.out) (Kd.N_typed Bl.out) (by decide)) B1.out (by decide)) B2.out (by decide)) (fun k_ hk => ⟨⟨(.inr (hk.1.1.1.1)), ⟨hk.1.2, hk.2⟩⟩, fun e_ => (hk.1.1.2) (by rw [e_]; rfl)⟩))) (Nat.le_refl _) (Kd.F_nil _ _ _) (Nat.le_refl _) (Kd.F_nil _ _ _)) (fun _ hk => hk); have Ei := Da 0 _ rfl; (try simp only [show (k44).sz = 6 from rfl, Nat.mul_one, Nat.add_zero] at Ei); have Ej := De 0; (try simp only [show (k44).sz = 6 from rfl, Nat.mul_one, Nat.add_zero] at Ej); have Ek := Da 1 _ rfl; (try simp only [show (k44).sz = 6 from rfl, Nat.mul_one, Nat.add_zero] at Ek); have El := De 1; (try simp only [show (k44).sz = 6 from rfl, Nat.mul_one, Nat.add_zero] at El); have Em := Da 2 _ rfl; (try simp only [show (k44).sz = 6 from rfl, Nat.mul_one, Nat.add_zero] at Em); have En := De 2; (try simp only [show (k44).sz = 6 from rfl, Nat.mul_one, Nat.add_zero] at En); have Eo := Da 3 _ rfl; (try simp only [show (k44).sz = 6 from rfl, Nat.mul_one, Nat.add_zero] at Eo); have Ep := De 3; (try simp only [show (k44).sz = 6 from rfl, Nat.mul_one, Nat.add_zero] at Ep); have Eq := Da 4 _ rfl; (try simp only [show (k44).sz = 6 from rfl, Nat.mul_one, Nat.add_zero] at Eq); have Er := De 4; (try simp only [show (k44).sz = 6 from rfl, Nat.mul_one, Nat.add_zero] at Er); have Es := Da 5 _ rfl; (try simp only [show (k44).sz = 6 from rfl, Nat.mul_one, Nat.add_zero] at Es); have Et := De 5; (try simp only [show (k44).sz = 6 from rfl, Nat.mul_one, Nat.add_zero] at Et); clear Fg Da De Gq; (try simp only [Int.toNat_natCast] at Ei Ek Em Eo Eq Es Ej El En Ep Er Et)) | ((with_reducible refine gate_store (t := 44) (p := 101) rfl ?_); refine store_event (t := 44) (p := 101) (v := ?vo_w100) (w1 := ((((((w96.setCell ⟨D5, ((B4.length : Int) : Int).toNat * 6, none⟩ (.slice none 0 0)).setCell ⟨D5, ((B4.length : Int) : Int).toNat * 6 + 1, none⟩ (.slice none 0 0)).setCell ⟨D5, ((B4.length : Int) : Int).toNat * 6 + 2, none⟩ (.slice none 0 0)).setCell ⟨D5, ((B4.length : Int) : Int).toNat * 6 + 3, none⟩ (.slice Ex y422.length Ey)).setCell ⟨D5, ((B4.length : Int) : Int).toNat * 6 + 4, none⟩ (.slice none 0 0)).setCell ⟨D5, ((B4.length : Int) : Int).toNat * 6 + 5, none⟩ (.slice none 0 0))) ?hg ?ho ?hn ?hr ?_; (case ho => rfl); (case hg => rfl); (case hn => rfl); (case hr => first | (go_simp; done) | (go_simp; rfl)); intro w100 hw; have hg : w96.grownBy w100 (some D5) := (by rw [hw]; exact G0.2); have hp_ : Kd.N k44 44 w100 w.heap.size (fun k_ => (Bs k_ ∨ w.heap.size ≤ k_) ∧ k_ ≠ B5 ∧ k_ ≠ B3) (.slice (some ⟨D5, 0, none⟩) Bk.length Bw) y425 := (by rw [hw, Gh.out]; exact G0.1); clear G0; replace B0 := am_ (Kd.V_afterv (v := (.slice (some ⟨D5, 0, none⟩) Bk.length Bw)) (v1 := (.slice (some ⟨D5, 0, none⟩) Bk.length Bw)) (ok := (fun k_ => (Bs k_ ∨ w.heap.size ≤ k_) ∧ some k_ ≠ (.slice Ex y422.length Ey : Value).ownBlock ∧ k_ ≠ B5 ∧ k_ ≠ B3)) (by (with_reducible repeat (first | apply Kd.V_alloc | apply Kd.V_drewN | apply Kd.V_drew)); exact Kd.V_mono B0.out (fun _ hk => ⟨⟨hk.1.1, ⟨hk.2, ⟨hk.1.2.2.1, hk.1.2.2.2⟩⟩⟩, hk.1.2.1⟩)) hg (.inl rfl)); replace B1 := am_ (blk_grown (g := B5) (o := .cells #[.int .i64 Ba, .int .i64 Bb, .int .i64 Bc, .int .i64 Bd, .int .i64 Be, .int .i64 Bf, .int .i64 Bg, .int .i64 Bh, .int .i64 Bi, .int .i64 Bj, .slice Bm B6.length Bn, .slice Bo B7.length Bp, .slice Bq B8.length Br, .slice Bt B4.length Bu] 28 (0, 0)) (by (with_reducible repeat (first | apply kn_ | apply kd_ | apply ka_)); exact B1.out) hg (Kd.N_ne Bl.out B1.out (by decide))); replace B2 := am_ (blk_grown (g := B3) (o := .cells #[.int .i64 Ba, .int .i64 Bb, .int .i64 Bc, .int .i64 Bd, .int .i64 Be, .int .i64 Bf, .int .i64 Bg, .int .i64 Bh, .int .i64 Bi, .int .i64 Bj, .slice Bm B6.length Bn, .slice Bo B7.length Bp, .slice Bq B8.length Br, .slice (some ⟨D5, 0, none⟩) Bk.length Bw] 28 (0, 0)) (by (with_reducible repeat (first | apply kn_ | apply kd_ | apply ka_)); exact B2.out) hg (Kd.N_ne Bl.out B2.out (by decide))); replace Bl := am_ (hp_); replace HB := am_ ((by rw [hw]; exact below_set (below_set (below_set (below_set (below_set (below_set (HB.out) E2.out) E2.out) E2.out) E2.out) E2.out) E2.out : Below w.heap.size w w100)); clear Dz; clear hg hw hp_))
                  replace B0 := am_ (Kd.V_drew B0.out)
                  replace Bl := am_ (Kd.N_drew Bl.out)
                  replace B1 := am_ (blk_drew B1.out)
                  replace B2 := am_ (blk_drew B2.out)
                  replace HB := am_ (below_drew1 HB.out)
                  refine start_ (n := 10) (S := fun w' => ce_ w' B3 0 (.int .i64 Ba) ∧ ce_ w' B3 1 (.int .i64 Bb) ∧ ce_ w' B3 2 (.int .i64 Bc) ∧ ce_ w' B3 3 (.int .i64 Bd) ∧ ce_ w' B3 4 (.int .i64 Be) ∧ ce_ w' B3 5 (.int .i64 Bf) ∧ ce_ w' B3 6 (.int .i64 Bg) ∧ ce_ w' B3 7 (.int .i64 Bh) ∧ ce_ w' B3 8 (.int .i64 Bi) ∧ ce_ w' B3 9 (.int .i64 Bj) ∧ ce_ w' B3 10 (.slice Bm B6.length Bn) ∧ ce_ w' B3 11 (.slice Bo B7.length Bp) ∧ ce_ w' B3 12 (.slice Bq B8.length Br) ∧ ce_ w' B3 13 (.slice (some ⟨D5, 0, none⟩) Bk.length Bw) ∧ ce_ w' B5 0 (.int .i64 Ba) ∧ ce_ w' B5 1 (.int .i64 Bb) ∧ ce_ w' B5 2 (.int .i64 Bc) ∧ ce_ w' B5 3 (.int .i64 Bd) ∧ ce_ w' B5 4 (.int .i64 Be) ∧ ce_ w' B5 5 (.int .i64 Bf) ∧ ce_ w' B5 6 (.int .i64 Bg) ∧ ce_ w' B5 7 (.int .i64 Bh) ∧ ce_ w' B5 8 (.int .i64 Bi) ∧ ce_ w' B5 9 (.int .i64 Bj) ∧ ce_ w' B5 10 (.slice Bm B6.length Bn) ∧ ce_ w' B5 11 (.slice Bo B7.length Bp) ∧ ce_ w' B5 12 (.slice Bq B8.length Br) ∧ ce_ w' B5 13 (.slice Bt B4.length Bu)) (ds := []) #[false, false, false, false, false, false, false, false, false, false] (by kernel_rfl) rfl rfl ⟨(blk_cell B2.out 0).trans rfl, (blk_cell B2.out 1).trans rfl, (blk_cell B2.out 2).trans rfl, (blk_cell B2.out 3).trans rfl, (blk_cell B2.out 4).trans rfl, (blk_cell B2.out 5).trans rfl, (blk_cell B2.out 6).trans rfl, (blk_cell B2.out 7).trans rfl, (blk_cell B2.out 8).trans rfl, (blk_cell B2.out 9).trans rfl, (blk_cell B2.out 10).trans rfl, (blk_cell B2.out 11).trans rfl, (blk_cell B2.out 12).trans rfl, (blk_cell B2.out 13).trans rfl, (blk_cell B1.out 0).trans rfl, (blk_cell B1.out 1).trans rfl, (blk_cell B1.out 2).trans rfl, (blk_cell B1.out 3).trans rfl, (blk_cell B1.out 4).trans rfl, (blk_cell B1.out 5).trans rfl, (blk_cell B1.out 6).trans rfl, (blk_cell B1.out 7).trans rfl, (blk_cell B1.out 8).trans rfl, (blk_cell B1.out 9).trans rfl, (blk_cell B1.out 10).trans rfl, (blk_cell B1.out 11).trans rfl, (blk_cell B1.out 12).trans rfl, (blk_cell B1.out 13).trans rfl⟩ (fun hHeld => ?_); refine with_tabW l34_PremiseAfter.tab19 l34_PremiseAfter.bits19 (fun HT_ HW_ => ?_)
                  generalize w100.drew = w101 at B0 Bl B1 B2 HB hHeld ⊢
                  refine pur_ 2 (some 104) rfl rfl (any_of HT_.out (by kernel_rfl)) ?_
                  refine tak_ 0 (some 102) rfl rfl (take_ofW HT_.out HW_.out (by kernel_rfl)) hHeld ?_ (by rintro w' ⟨s0, s1, s2, s3, s4, s5, s6, s7, s8, s9, s10, s11, s12, s13, s14, s15, s16, s17, s18, s19, s20, s21, s22, s23, s24, s25, s26, s27⟩; (first | (refine load_cells_14 (ty := 28) (x := .tmp 2) (g := B5) ?hlo_ ?hx_ Try.underlying28 ?hd_ ?hi_ s14 s15 s16 s17 s18 s19 s20 s21 s22 s23 s24 s25 s26 s27; (case hlo_ => rfl); (case hx_ => rfl); (case hd_ => rfl); (case hi_ => kernel_rfl)) | (refine load_cells_14 (ty := 28) (x := .tmp 8) (g := B3) ?hlo_ ?hx_ Try.underlying28 ?hd_ ?hi_ s0 s1 s2 s3 s4 s5 s6 s7 s8 s9 s10 s11 s12 s13; (case hlo_ => rfl); (case hx_ => rfl); (case hd_ => rfl); (case hi_ => kernel_rfl)) | (go_simp; with_reducible rfl)))
                  refine tak_ 3 (some 105) rfl rfl (take_ofW HT_.out HW_.out (by kernel_rfl)) hHeld ?_ (by rintro w' ⟨s0, s1, s2, s3, s4, s5, s6, s7, s8, s9, s10, s11, s12, s13, s14, s15, s16, s17, s18, s19, s20, s21, s22, s23, s24, s25, s26, s27⟩; (first | (refine load_cells_14 (ty := 28) (x := .tmp 2) (g := B5) ?hlo_ ?hx_ Try.underlying28 ?hd_ ?hi_ s14 s15 s16 s17 s18 s19 s20 s21 s22 s23 s24 s25 s26 s27; (case hlo_ => rfl); (case hx_ => rfl); (case hd_ => rfl); (case hi_ => kernel_rfl)) | (refine load_cells_14 (ty := 28) (x := .tmp 8) (g := B3) ?hlo_ ?hx_ Try.underlying28 ?hd_ ?hi_ s0 s1 s2 s3 s4 s5 s6 s7 s8 s9 s10 s11 s12 s13; (case hlo_ => rfl); (case hx_ => rfl); (case hd_ => rfl); (case hi_ => kernel_rfl)) | (go_simp; with_reducible rfl)))
                  refine pur_ 4 (some 106) rfl rfl (any_of HT_.out (by kernel_rfl)) ?_
                  refine oon_ 1 (some 103) rfl rfl (one_of HT_.out (by kernel_rfl)) (fun K hK => ?_)
                  refine goes_ Try.func30 (by kernel_rfl) rfl #[.agg #[.int .i64 Ba, .int .i64 Bb, .int .i64 Bc, .int .i64 Bd, .int .i64 Be, .int .i64 Bf, .int .i64 Bg, .int .i64 Bh, .int .i64 Bi, .int .i64 Bj, .slice Bm B6.length Bn, .slice Bo B7.length Bp, .slice Bq B8.length Br, .slice (some ⟨D5, 0, none⟩) y425.length Bw]] (by rfl) rfl rfl (by (try simp only [List.map_toArray, List.map_cons, List.map_nil]); first | done | (rw [show y425.length = Bk.length from (Kd.N_reads' Bl.out).1.symm] <;> rfl) | rfl | (simp only [List.length_drop, List.length_take]; rfl)) ?_
                  with_reducible refine (premise_Last.calls E1 Ba Bb Bc Bd Be Bf Bg Bh Bi Bj _ _ B6 _ _ B7 _ _ B8 _ _ y425 _ _ (Kd.C_below Bx.out HB.out) By.out (Kd.C_below Bz.out HB.out) D0.out (Kd.C_below D1.out HB.out) D2.out (Kd.N_reads' Bl.out).2.2 ?side8 Mm.out).mono ?_
                  (case side8 => rw [show y425.length = Bk.length from (Kd.N_reads' Bl.out).1.symm]; exact (Kd.N_reads' Bl.out).2.1)
                  rintro e w102 ⟨rfl, hb⟩
                  refine ⟨_, rfl, ?_⟩
                  replace B0 := am_ (Kd.V_below B0.out hb)
                  replace Bl := am_ (Kd.N_below Bl.out hb)
                  replace B1 := bkb_ B1 hb
                  replace B2 := bkb_ B2 hb
                  replace HB := bst_ HB hb
                  (try clear hb)
                  (try clear hb2)
                  (try clear hk)
                  (try clear hi)
                  refine hK.out _ _ (and_14 B2.out (cells_14 B1.out)) (fun hHeld => ?_)
                  clear hK K
                  refine nor_ 103 ?_
                  refine pur_ 5 (some 107) rfl rfl (any_of HT_.out (by kernel_rfl)) ?_
                  refine pur_ 6 (some 108) rfl rfl (any_of HT_.out (by kernel_rfl)) ?_
                  refine oon_ 7 (some 109) rfl rfl (one_of HT_.out (by kernel_rfl)) (fun K hK => ?_)
                  refine gos_ Try.func25 (l34_known.calls E1  _ _ Mn.out) ?_
                  rintro e w103 ⟨rfl, hb⟩
                  refine ⟨_, rfl, ?_⟩
                  replace B0 := am_ (Kd.V_below B0.out hb)
                  replace Bl := am_ (Kd.N_below Bl.out hb)
                  replace B1 := bkb_ B1 hb
                  replace B2 := bkb_ B2 hb
                  replace HB := bst_ HB hb
                  (try clear hb)
                  (try clear hb2)
                  (try clear hk)
                  (try clear hi)
                  refine hK.out _ _ (and_14 B2.out (cells_14 B1.out)) (fun hHeld => ?_)
                  clear hK K
                  refine nor_ 109 ?_
                  refine pur_ 8 (some 110) rfl rfl (any_of HT_.out (by kernel_rfl)) ?_
                  refine pur_ 9 (some 4) rfl rfl (any_of HT_.out (by kernel_rfl)) ?_
                  refine done_ (done_of HT_.out (by kernel_rfl)) ?_
                  try go_wp2
                  go_ret
                  exact ⟨by first | rfl | (simp [*] <;> rfl), by repeat (first | (with_reducible first | exact HB.out | apply ba_ | apply bn_ | apply bd_ | refine bs_ ?_ D4.out | refine bs_ ?_ D8.out) | exact HB.out)⟩
                 ·rw [if_neg Fn] at H
                  have Gi : (Do == (B4.length : Int)) = false := beq_eq_false_iff_ne.mpr Fn
                  have Gj : (Do != (B4.length : Int)) = true := bne_iff_ne.mpr Fn
                  exact absurd H (by simp)
                ·rw [if_neg Gg] at H
                 exact absurd H (by simp)
               ·rw [if_neg Gw] at H
                exact absurd H (by simp)
           ·rw [if_neg Gu] at H
            exact absurd H (by simp)
          ·rw [if_neg Gt] at H
           exact absurd H (by simp)
theorem l34_PremiseAfter.calls (k : Nat) (Bc Bd Be Bf Bg Bh Bi Bj Bk Bl : Int) (B4 : Option Addr) (B5 : Nat) (B0 : List Int) (B6 : Option Addr) (B7 : Nat) (B1 : List Int) (B8 : Option Addr) (B9 : Nat) (B2 : List ByteArray) (Ba : Option Addr) (Bb : Nat) (B3 : List (S44)) (a1 : ByteArray) (r : Bool) (w : World) (Bm : Kd.C (Kd.int .i64) w B4 B0.length B0) (Bn : B0.length ≤ B5) (Bo : Kd.C (Kd.int .i64) w B6 B1.length B1) (Bp : B1.length ≤ B7) (Bq : Kd.C Kd.string w B8 B2.length B2) (Br : B2.length ≤ B9) (Bs : Kd.C k44 w Ba B3.length B3) (Bt : B3.length ≤ Bb) (h : l34_PremiseAfter.f k Bc Bd Be Bf Bg Bh Bi Bj Bk Bl B0 B1 B2 B3 a1 = some r) :
    Calls Try.prog 9 #[.agg #[.int .i64 Bc, .int .i64 Bd, .int .i64 Be, .int .i64 Bf, .int .i64 Bg, .int .i64 Bh, .int .i64 Bi, .int .i64 Bj, .int .i64 Bk, .int .i64 Bl, .slice B4 B0.length B5, .slice B6 B1.length B7, .slice B8 B2.length B9, .slice Ba B3.length Bb], .string a1] w fun e w' => e = .returned (.bool r) ∧ Below w.heap.size w w' :=
 l34_PremiseAfter.callsV k Bc Bd Be Bf Bg Bh Bi Bj Bk Bl B4 B5 B0 B6 B7 B1 B8 B9 B2 (fun k_ => k_ < w.heap.size) Ba Bb B3 a1 r w Bm Bn Bo Bp Bq Br (Kd.V_mk Bt (Kd.C_F k44_heap Bs)) h
end Go.Proofs.Ythdoghhmooodjaa.Gn
