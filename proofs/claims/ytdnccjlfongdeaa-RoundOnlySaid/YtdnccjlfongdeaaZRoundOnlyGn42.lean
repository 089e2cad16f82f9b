import Derived.Test.YtdnccjlfongdeaaZRoundOnlyGn0
import Derived.Test.YtdnccjlfongdeaaZRoundOnlyGn2
import Derived.Test.YtdnccjlfongdeaaZRoundOnlyGn3
import Derived.Test.YtdnccjlfongdeaaZRoundOnlyGn12
import Derived.Test.YtdnccjlfongdeaaZRoundOnlyGn14
import Derived.Test.YtdnccjlfongdeaaZRoundOnlyGn20
import Derived.Test.YtdnccjlfongdeaaZRoundOnlyGn22
import Derived.Test.YtdnccjlfongdeaaZRoundOnlyGn24
namespace Go.Proofs.Ytdnccjlfongdeaa.Gn
open Go.RowKit Go.Proofs.YtdnccjlfongdeaaW.PrintWords Go.Proofs.YtdnccjlfongdeaaW.PrintLast Go.Proofs.YtdnccjlfongdeaaW.PrintMore
attribute [local go_sem] max2_int min2_int max_two min_two max_three min_three max_four min_four   -- for this text's walks alone
set_option linter.unusedVariables false
set_option linter.unusedSimpArgs false
def l38_RoundOnly.j0 : Nat → List Int → Bool → Int → Int → Int → Int → Int → Int → Int → Int → Int → Int → List Int → Int → ByteArray → List ByteArray → List (List (S45)) → Option (Bool)
 | 0, _, _, _, _, _, _, _, _, _, _, _, _, _, _, _, _, _ => none
 | k + 1, x1, Bj, B5, B6, B7, B8, B9, Ba, Bb, Bc, Bd, Be, Bf, B0, B1, B2, B3 => if Bj = true then ((l38_known.f k).bind fun Bg => (some Bg)) else ((round_Play.f k B5 B6 B7 B8 B9 Ba Bb Bc Bd Be Bf x1 B0 B1 B2 B3).bind fun B4 => ((r38_Same.f k B4.1 B4.2.1 B4.2.2.1 B4.2.2.2 B0 B1 B2 B3).bind fun Bh => (if Bh = true then ((l38_known.f k).bind fun Bi => (some Bi)) else (none))))
def l38_RoundOnly.f (k : Nat) (B1 B2 B3 B4 B5 B6 B7 B8 B9 Ba : Int) (B0 l1 : List Int) (Bd : Int) (Be : ByteArray) (Bb : List ByteArray) (Bc : List (List (S45))) : Option (Bool) := (r03_Plain.f k B1 B2 B3 B4 B5 B6 B7 B8 B9 Ba B0).bind fun Bf => (if Bf = 0 then ((r38_Few.f k Bb Bc).bind fun Bg => (if Bg = true then (if (l1.length : Int) > 20 then (l38_RoundOnly.j0 k l1 true B1 B2 B3 B4 B5 B6 B7 B8 B9 Ba B0 Bd Be Bb Bc) else ((round_Fits.f k B1 B2 B3 B4 B5 B6 B7 B8 B9 Ba B0 l1 Bd Be Bb Bc).bind fun Bh => (l38_RoundOnly.j0 k l1 (Bh != 0) B1 B2 B3 B4 B5 B6 B7 B8 B9 Ba B0 Bd Be Bb Bc))) else (l38_RoundOnly.j0 k l1 true B1 B2 B3 B4 B5 B6 B7 B8 B9 Ba B0 Bd Be Bb Bc))) else (l38_RoundOnly.j0 k l1 true B1 B2 B3 B4 B5 B6 B7 B8 B9 Ba B0 Bd Be Bb Bc))
def l38_RoundOnly.T3 : Bool × List (List Nat × List Nat) := (true, [([], []), ([], []), ([], []), ([2], [2]), ([], []), ([4], [4]), ([], []), ([6], [6]), ([], []), ([8], [8]), ([0, 1, 3, 5, 7, 9], [0, 1, 3, 5, 7, 9]), ([], []), ([10, 11, 10], [10, 11]), ([12, 12], [12]), ([13, 13], [13]), ([13, 14], [13, 14]), ([15, 14, 0, 1, 2, 3, 4, 5, 6, 7, 8, 9, 10, 11, 12, 13, 14, 15], [15])])
def l38_RoundOnly.B3 : List Nat := [0, 0, 0, 4, 0, 16, 0, 64, 0, 256, 1023, 0, 4095, 8191, 16383, 32767, 65535]
theorem l38_RoundOnly.tab3 : rtab .any (opsOf Try.f6 3) = l38_RoundOnly.T3 := by kernel_rfl
theorem l38_RoundOnly.bits3 : waitsOk l38_RoundOnly.T3.2 l38_RoundOnly.B3 = true := by kernel_rfl
set_option maxHeartbeats 8000000 in
set_option maxRecDepth 100000 in
theorem l38_RoundOnly.calls (k : Nat) (Ba Bb Bc Bd Be Bf Bg Bh Bi Bj : Int) (Br : Option Addr) (Bs : Nat) (B3 : List Int) (A1 : Option Addr) (c1 : Nat) (l1 : List Int) (Bp : Int) (Bq : ByteArray) (By : Option Addr) (Bz : Nat) (B6 : List ByteArray) (D0 : Option Addr) (D1 : Nat) (B7 : List (List (S45))) (r : Bool) (w : World) (D3 : Kd.C (Kd.int .i64) w Br B3.length B3) (D4 : B3.length ≤ Bs) (Eh : Kd.C (Kd.int .i64) w A1 l1.length l1) (Ei : l1.length ≤ c1) (D6 : Kd.C Kd.string w By B6.length B6) (D7 : B6.length ≤ Bz) (D8 : Kd.C (Kd.slice 45 k45) w D0 B7.length B7) (D9 : B7.length ≤ D1) (h : l38_RoundOnly.f k Ba Bb Bc Bd Be Bf Bg Bh Bi Bj B3 l1 Bp Bq B6 B7 = some r) :
  Calls Try.prog 6 #[.agg #[.int .i64 Ba, .int .i64 Bb, .int .i64 Bc, .int .i64 Bd, .int .i64 Be, .int .i64 Bf, .int .i64 Bg, .int .i64 Bh, .int .i64 Bi, .int .i64 Bj, .slice Br B3.length Bs], .slice A1 l1.length c1, .agg #[.int .i64 Bp, .string Bq, .slice By B6.length Bz, .slice D0 B7.length D1]] w fun e w' => e = .returned (.bool r) ∧ Below w.heap.size w w' := by
 have Ev := Try.underlying32
 have Bk := am_ D3
 have Bl := am_ D4
 clear D3 D4
 have Ej := am_ Eh
 have Ek := am_ Ei
 clear Eh Ei
 have Bt := am_ D6
 have Bu := am_ D7
 clear D6 D7
 have Bv := am_ D8
 have Bw := am_ D9
 clear D8 D9
 have HB := am_ (Below.refl w.heap.size w)
 have H := h
 unfold l38_RoundOnly.f at H
 clear h
 have E3 := am_ H
 clear H
 go_enter Try.func6, Try.ntmps6
 go_upto_region 1 with (first | ((with_reducible refine gate_load (t := 24) (x := .tmp 3) rfl ?_); refine lrg_ 24 (.tmp 3) B2 24 (by exact B0.out) Try.underlying24 ?_) | ((with_reducible refine gate_dst (N := 3) rfl ?_); (try (refine gate_guard (by rfl) ?_; dsimp only)); refine bxe_ 3 24 #[.int .i64 Ba, .int .i64 Bb, .int .i64 Bc, .int .i64 Bd, .int .i64 Be, .int .i64 Bf, .int .i64 Bg, .int .i64 Bh, .int .i64 Bi, .int .i64 Bj, .slice Br B3.length Bs] ?_; intro B2 hg w5 hbox hb; have B0 := am_ (hbox); have Dd := gwk_ HB hg; have B8 := Dd; replace HB := bst_ HB hb; clear hb hbox hg) | ((with_reducible refine gate_dst (N := 5) rfl ?_); (try (refine gate_guard (by rfl) ?_; dsimp only)); refine bxe_ 5 32 #[.int .i64 Bp, .string Bq, .slice By B6.length Bz, .slice D0 B7.length D1] ?_; intro Bm hg w6 hbox hb; have B1 := am_ (hbox); have De := gwk_ HB hg; have B9 := De; replace HB := bst_ HB hb; have B4 := nbk_ B0 hg; have B5 := nbs_ B4; replace B0 := bkb_ B0 hb; clear hb hbox hg))
 (try simp only [Act.put, zs_])
 go_cut [29] (fun v29 wc => ∃ (kq : Nat) (Bx : Bool), v29 = .bool Bx ∧ Aside0 (l38_RoundOnly.j0 kq l1 Bx Ba Bb Bc Bd Be Bf Bg Bh Bi Bj B3 Bp Bq B6 B7 = some r) ∧ Aside0 (kq ≤ k) ∧ Aside0 (wc.heap[B2]? = some (.cells #[.int .i64 Ba, .int .i64 Bb, .int .i64 Bc, .int .i64 Bd, .int .i64 Be, .int .i64 Bf, .int .i64 Bg, .int .i64 Bh, .int .i64 Bi, .int .i64 Bj, (.slice Br B3.length Bs)] 24 (0, 0))) ∧ Aside0 (wc.heap[Bm]? = some (.cells #[.int .i64 Bp, .string Bq, (.slice By B6.length Bz), (.slice D0 B7.length D1)] 32 (0, 0))) ∧ Aside0 (Below w.heap.size w wc))
 case first =>
  have H := E3.out
  clear E3
  obtain ⟨D5, A7, H⟩ := bes_ H
  try dsimp only at H
  by_cases c8 : D5 = 0
  ·rw [if_pos c8] at H
   have D2 : (D5 == 0) = true := beq_iff_eq.mpr c8
   have Df : (D5 != 0) = false := bne_eq_false_iff_eq.mpr c8
   clear c8
   (first | rw [D2] | (simp only [i64_w, i32_w]; rw [D2]) | skip)
   obtain ⟨E4, A9, H⟩ := bes_ H
   try dsimp only at H
   by_cases Dg : E4 = true
   ·subst Dg
    rw [if_pos rfl] at H
    by_cases Dc : (l1.length : Int) > 20
    ·rw [if_pos Dc] at H
     have Da : decide (20 < (l1.length : Int)) = true := decide_eq_true Dc
     have Db : decide (20 < l1.length) = true := decide_eq_true (by omega)
     clear Dc
     have H' := am_ H
     clear H
     have El := B4.out
     have Em := B5.out
     have Dh := cells_11 B0.out
     have Di := frozen_11 B0.out
     go_wp2_with (first | ((with_reducible refine gate_load (t := 24) (x := .tmp 3) rfl ?_); refine lrg_ 24 (.tmp 3) B2 24 (by exact B0.out) Try.underlying24 ?_) | ((with_reducible refine gate_callee (f := 16) rfl ?_); refine gom_ (some 8) Try.func16 (r03_Plain.calls k Ba Bb Bc Bd Be Bf Bg Bh Bi Bj _ _ B3 _ _ (Kd.C_below Bk.out HB.out) Bl.out A7.out) ?_; rintro e w14 ⟨rfl, hb⟩; refine ⟨_, rfl, ?_⟩; replace B0 := bkb_ B0 hb; replace B1 := bkb_ B1 hb; replace HB := bst_ HB hb; (try clear hb); have Dj := cells_4 B1.out; have Dk := frozen_4 B1.out) | (go_at_call 7; (with_reducible refine (r38_Few.calls k _ _ B6 _ _ B7 _ _ (Kd.C_below Bt.out HB.out) Bu.out (Kd.C_below Bv.out HB.out) Bw.out A9.out).mono ?_); rintro e w' ⟨rfl, ⟨nd, rfl⟩⟩))
     go_meet
     case rel => exact ⟨_, (true), (by first | rfl | (simp; done) | (simp [*]; done)), H', ⟨by first | omega | exact Nat.le_refl _⟩, ⟨by (with_reducible repeat (first | apply kn_ | apply kd_ | apply ka_)); exact B0.out⟩, ⟨by (with_reducible repeat (first | apply kn_ | apply kd_ | apply ka_)); exact B1.out⟩, ⟨by repeat (first | (with_reducible first | exact HB.out | apply ba_ | apply bn_ | apply bd_ | refine bs_ ?_ B8.out | refine bs_ ?_ B9.out) | exact HB.out)⟩⟩
    ·rw [if_neg Dc] at H
     have Da : decide (20 < (l1.length : Int)) = false := decide_eq_false Dc
     have Db : decide (20 < l1.length) = false := decide_eq_false (by omega)
     clear Dc
     obtain ⟨E5, Ew, H⟩ := bes_ H
     try dsimp only at H
     have H' := am_ H
     clear H
     have En := B4.out
     have Eo := B5.out
     have Dl := cells_11 B0.out
     have Dm := frozen_11 B0.out
     go_wp2_with (first | ((with_reducible refine gate_load (t := 24) (x := .tmp 3) rfl ?_); refine lrg_ 24 (.tmp 3) B2 24 (by exact B0.out) Try.underlying24 ?_) | ((with_reducible refine gate_callee (f := 16) rfl ?_); refine gom_ (some 8) Try.func16 (r03_Plain.calls k Ba Bb Bc Bd Be Bf Bg Bh Bi Bj _ _ B3 _ _ (Kd.C_below Bk.out HB.out) Bl.out A7.out) ?_; rintro e w19 ⟨rfl, hb⟩; refine ⟨_, rfl, ?_⟩; replace B0 := bkb_ B0 hb; replace B1 := bkb_ B1 hb; replace HB := bst_ HB hb; (try clear hb); have Dn := cells_4 B1.out; have Do := frozen_4 B1.out) | (go_at_call 7; (with_reducible refine (r38_Few.calls k _ _ B6 _ _ B7 _ _ (Kd.C_below Bt.out HB.out) Bu.out (Kd.C_below Bv.out HB.out) Bw.out A9.out).mono ?_); rintro e w' ⟨rfl, ⟨nd, rfl⟩⟩; have E6 := cells_11 B0.out; have E7 := frozen_11 B0.out) | (go_at_call 14; (with_reducible refine (round_Fits.calls k Ba Bb Bc Bd Be Bf Bg Bh Bi Bj _ _ B3 _ _ l1 Bp Bq _ _ B6 _ _ B7 _ _ ?side1 Bl.out ?side3 Ek.out ?side5 Bu.out ?side7 Bw.out Ew.out).mono ?_); (case side1 => repeat (first | exact (Kd.C_below Bk.out (by repeat (first | (with_reducible first | exact HB.out | apply ba_ | apply bn_ | apply bd_ | refine bs_ ?_ B8.out | refine bs_ ?_ B9.out) | exact HB.out))) | (with_reducible refine Kd.C_alloc ?_ _) | (with_reducible refine Kd.C_drewN ?_ _) | (with_reducible refine Kd.C_drew ?_))); (case side3 => repeat (first | exact (Kd.C_below Ej.out (by repeat (first | (with_reducible first | exact HB.out | apply ba_ | apply bn_ | apply bd_ | refine bs_ ?_ B8.out | refine bs_ ?_ B9.out) | exact HB.out))) | (with_reducible refine Kd.C_alloc ?_ _) | (with_reducible refine Kd.C_drewN ?_ _) | (with_reducible refine Kd.C_drew ?_))); (case side5 => repeat (first | exact (Kd.C_below Bt.out (by repeat (first | (with_reducible first | exact HB.out | apply ba_ | apply bn_ | apply bd_ | refine bs_ ?_ B8.out | refine bs_ ?_ B9.out) | exact HB.out))) | (with_reducible refine Kd.C_alloc ?_ _) | (with_reducible refine Kd.C_drewN ?_ _) | (with_reducible refine Kd.C_drew ?_))); (case side7 => repeat (first | exact (Kd.C_below Bv.out (by repeat (first | (with_reducible first | exact HB.out | apply ba_ | apply bn_ | apply bd_ | refine bs_ ?_ B8.out | refine bs_ ?_ B9.out) | exact HB.out))) | (with_reducible refine Kd.C_alloc ?_ _) | (with_reducible refine Kd.C_drewN ?_ _) | (with_reducible refine Kd.C_drew ?_))); rintro e w22 ⟨rfl, hb⟩; replace B0 := bkb_ ⟨by (with_reducible repeat (first | apply kn_ | apply kd_ | apply ka_)); exact B0.out⟩ hb; replace B1 := bkb_ ⟨by (with_reducible repeat (first | apply kn_ | apply kd_ | apply ka_)); exact B1.out⟩ hb; replace HB := bst_ ⟨by repeat (first | (with_reducible first | exact HB.out | apply ba_ | apply bn_ | apply bd_) | exact HB.out)⟩ hb; (try clear hb)))
     go_meet
     case rel => exact ⟨_, ((E5 != 0)), (by first | rfl | (simp; done) | (simp [*]; done)), H', ⟨by first | omega | exact Nat.le_refl _⟩, ⟨by (with_reducible repeat (first | apply kn_ | apply kd_ | apply ka_)); exact B0.out⟩, ⟨by (with_reducible repeat (first | apply kn_ | apply kd_ | apply ka_)); exact B1.out⟩, ⟨by repeat (first | (with_reducible first | exact HB.out | apply ba_ | apply bn_ | apply bd_ | refine bs_ ?_ B8.out | refine bs_ ?_ B9.out) | exact HB.out)⟩⟩
   ·replace Dg := Bool.eq_false_iff.mpr Dg
    subst Dg
    rw [if_neg (show ¬ (false = true) by decide)] at H
    have H' := am_ H
    clear H
    have Ep := B4.out
    have Eq := B5.out
    have Dp := cells_11 B0.out
    have Dq := frozen_11 B0.out
    go_wp2_with (first | ((with_reducible refine gate_load (t := 24) (x := .tmp 3) rfl ?_); refine lrg_ 24 (.tmp 3) B2 24 (by exact B0.out) Try.underlying24 ?_) | ((with_reducible refine gate_callee (f := 16) rfl ?_); refine gom_ (some 8) Try.func16 (r03_Plain.calls k Ba Bb Bc Bd Be Bf Bg Bh Bi Bj _ _ B3 _ _ (Kd.C_below Bk.out HB.out) Bl.out A7.out) ?_; rintro e w25 ⟨rfl, hb⟩; refine ⟨_, rfl, ?_⟩; replace B0 := bkb_ B0 hb; replace B1 := bkb_ B1 hb; replace HB := bst_ HB hb; (try clear hb); have Dr := cells_4 B1.out; have Ds := frozen_4 B1.out) | (go_at_call 7; (with_reducible refine (r38_Few.calls k _ _ B6 _ _ B7 _ _ (Kd.C_below Bt.out HB.out) Bu.out (Kd.C_below Bv.out HB.out) Bw.out A9.out).mono ?_); rintro e w' ⟨rfl, ⟨nd, rfl⟩⟩))
    go_meet
    case rel => exact ⟨_, (true), (by first | rfl | (simp; done) | (simp [*]; done)), H', ⟨by first | omega | exact Nat.le_refl _⟩, ⟨by (with_reducible repeat (first | apply kn_ | apply kd_ | apply ka_)); exact B0.out⟩, ⟨by (with_reducible repeat (first | apply kn_ | apply kd_ | apply ka_)); exact B1.out⟩, ⟨by repeat (first | (with_reducible first | exact HB.out | apply ba_ | apply bn_ | apply bd_ | refine bs_ ?_ B8.out | refine bs_ ?_ B9.out) | exact HB.out)⟩⟩
  ·rw [if_neg c8] at H
   have D2 : (D5 == 0) = false := beq_eq_false_iff_ne.mpr c8
   have Df : (D5 != 0) = true := bne_iff_ne.mpr c8
   (first | rw [D2] | (simp only [i64_w, i32_w]; rw [D2]) | skip)
   have H' := am_ H
   clear H
   have Er := B4.out
   have Es := B5.out
   have Dt := cells_11 B0.out
   have Du := frozen_11 B0.out
   go_wp2_with (first | ((with_reducible refine gate_load (t := 24) (x := .tmp 3) rfl ?_); refine lrg_ 24 (.tmp 3) B2 24 (by exact B0.out) Try.underlying24 ?_) | ((with_reducible refine gate_callee (f := 16) rfl ?_); refine gom_ (some 8) Try.func16 (r03_Plain.calls k Ba Bb Bc Bd Be Bf Bg Bh Bi Bj _ _ B3 _ _ (Kd.C_below Bk.out HB.out) Bl.out A7.out) ?_; rintro e w29 ⟨rfl, hb⟩; refine ⟨_, rfl, ?_⟩; replace B0 := bkb_ B0 hb; replace B1 := bkb_ B1 hb; replace HB := bst_ HB hb; (try clear hb)))
   go_meet
   case rel => exact ⟨_, (true), (by first | rfl | (simp; done) | (simp [*]; done)), H', ⟨by first | omega | exact Nat.le_refl _⟩, ⟨by (with_reducible repeat (first | apply kn_ | apply kd_ | apply ka_)); exact B0.out⟩, ⟨by (with_reducible repeat (first | apply kn_ | apply kd_ | apply ka_)); exact B1.out⟩, ⟨by repeat (first | (with_reducible first | exact HB.out | apply ba_ | apply bn_ | apply bd_ | refine bs_ ?_ B8.out | refine bs_ ?_ B9.out) | exact HB.out)⟩⟩
 case rest =>
  clear E3
  try clear c1
  try clear c2
  try clear p2
  try clear c6
  try clear c8
  try clear D2
  try clear Df
  try clear Dg
  try clear Dc
  try clear Da
  try clear Db
  try clear c12
  try clear c16
  try clear c17
  try clear c23
  try clear c27
  try clear Dh
  try clear Dj
  try clear Dl
  try clear Dn
  try clear hcz21_0 hcz21_1 hcz21_2 hcz21_3 hcz21_4 hcz21_5 hcz21_6 hcz21_7 hcz21_8 hcz21_9 hcz21_10
  try clear Dp
  try clear Dr
  try clear Dt
  try clear Di
  try clear Dk
  try clear Dm
  try clear Do
  try clear hfz21_0 hfz21_1 hfz21_2 hfz21_3 hfz21_4 hfz21_5 hfz21_6 hfz21_7 hfz21_8 hfz21_9 hfz21_10
  try clear Dq
  try clear Ds
  try clear Du
  obtain ⟨kq, Bx, rfl, HA, F5, B0, B1, HB⟩ := hcut
  cases kq with
  | zero => exact absurd HA.out (by simp [l38_RoundOnly.j0])
  | succ E0 =>
   have H := HA.out
   clear HA
   simp only [l38_RoundOnly.j0] at H
   by_cases E1 : Bx = true
   ·subst E1
    rw [if_pos rfl] at H
    replace H := Option.bind_eq_some_iff.mp H
    obtain ⟨E8, Dv, H⟩ := H
    replace H : (some E8) = some r := H
    have Ex := am_ Dv
    clear Dv
    obtain rfl := Option.some.inj H
    go_wp2_with (first | ((with_reducible refine gate_load (t := 24) (x := .tmp 3) rfl ?_); refine lrg_ 24 (.tmp 3) B2 24 (by exact B0.out) Try.underlying24 ?_) | ((with_reducible refine gate_callee (f := 8) rfl ?_); refine gom_ (some 30) Try.func8 (l38_known.calls E0  _ _ Ex.out) ?_; rintro e w32 ⟨rfl, hb⟩; refine ⟨_, rfl, ?_⟩; replace B0 := bkb_ B0 hb; replace B1 := bkb_ B1 hb; replace HB := bst_ HB hb; (try clear hb)))
    go_ret
    exact ⟨by first | rfl | (simp [*] <;> rfl), by repeat (first | (with_reducible first | exact HB.out | apply ba_ | apply bn_ | apply bd_ | refine bs_ ?_ B8.out | refine bs_ ?_ B9.out) | exact HB.out)⟩
   ·replace E1 := Bool.eq_false_iff.mpr E1
    subst E1
    rw [if_neg (show ¬ (false = true) by decide)] at H
    replace H := Option.bind_eq_some_iff.mp H
    obtain ⟨⟨E9, Ea, Eb, Ec⟩, Dw, H⟩ := H
    try dsimp only at H
    have Ey := am_ Dw
    clear Dw
    obtain ⟨Ed, Ez, H⟩ := bes_ H
    try dsimp only at H
    by_cases E2 : Ed = true
    ·subst E2
     rw [if_pos rfl] at H
     replace H := Option.bind_eq_some_iff.mp H
     obtain ⟨Ee, Dx, H⟩ := H
     replace H : (some Ee) = some r := H
     have F0 := am_ Dx
     clear Dx
     obtain rfl := Option.some.inj H
     try go_wp2
     replace B0 := am_ (blk_drew B0.out)
     replace B1 := am_ (blk_drew B1.out)
     replace HB := am_ (below_drew1 HB.out)
     refine start_ (n := 17) (S := fun w' => ce_ w' B2 0 (.int .i64 Ba) ∧ ce_ w' B2 1 (.int .i64 Bb) ∧ ce_ w' B2 2 (.int .i64 Bc) ∧ ce_ w' B2 3 (.int .i64 Bd) ∧ ce_ w' B2 4 (.int .i64 Be) ∧ ce_ w' B2 5 (.int .i64 Bf) ∧ ce_ w' B2 6 (.int .i64 Bg) ∧ ce_ w' B2 7 (.int .i64 Bh) ∧ ce_ w' B2 8 (.int .i64 Bi) ∧ ce_ w' B2 9 (.int .i64 Bj) ∧ ce_ w' B2 10 (.slice Br B3.length Bs) ∧ ce_ w' Bm 0 (.int .i64 Bp) ∧ ce_ w' Bm 1 (.string Bq) ∧ ce_ w' Bm 2 (.slice By B6.length Bz) ∧ ce_ w' Bm 3 (.slice D0 B7.length D1)) (ds := []) #[false, false, false, false, false, false, false, false, false, false, false, false, false, false, false, false, false] (by kernel_rfl) rfl rfl ⟨(blk_cell B0.out 0).trans rfl, (blk_cell B0.out 1).trans rfl, (blk_cell B0.out 2).trans rfl, (blk_cell B0.out 3).trans rfl, (blk_cell B0.out 4).trans rfl, (blk_cell B0.out 5).trans rfl, (blk_cell B0.out 6).trans rfl, (blk_cell B0.out 7).trans rfl, (blk_cell B0.out 8).trans rfl, (blk_cell B0.out 9).trans rfl, (blk_cell B0.out 10).trans rfl, (blk_cell B1.out 0).trans rfl, (blk_cell B1.out 1).trans rfl, (blk_cell B1.out 2).trans rfl, (blk_cell B1.out 3).trans rfl⟩ (fun hHeld => ?_); refine with_tabW l38_RoundOnly.tab3 l38_RoundOnly.bits3 (fun HT_ HW_ => ?_)
     generalize wc.drew = w37 at B0 B1 HB hHeld ⊢
     refine pur_ 1 (some 32) rfl rfl (any_of HT_.out (by kernel_rfl)) ?_
     refine pur_ 2 (some 33) rfl rfl (any_of HT_.out (by kernel_rfl)) ?_
     refine pur_ 4 (some 35) rfl rfl (any_of HT_.out (by kernel_rfl)) ?_
     refine pur_ 6 (some 37) rfl rfl (any_of HT_.out (by kernel_rfl)) ?_
     refine pur_ 8 (some 39) rfl rfl (any_of HT_.out (by kernel_rfl)) ?_
     refine tak_ 0 (some 31) rfl rfl (take_ofW HT_.out HW_.out (by kernel_rfl)) hHeld ?_ (by rintro w' ⟨s0, s1, s2, s3, s4, s5, s6, s7, s8, s9, s10, s11, s12, s13, s14⟩; (first | (refine load_cells_11 (ty := 24) (x := .tmp 3) (g := B2) ?hlo_ ?hx_ Try.underlying24 ?hd_ ?hi_ s0 s1 s2 s3 s4 s5 s6 s7 s8 s9 s10; (case hlo_ => rfl); (case hx_ => rfl); (case hd_ => rfl); (case hi_ => kernel_rfl)) | (go_simp; with_reducible rfl)))
     refine tak_ 3 (some 34) rfl rfl (take_ofW HT_.out HW_.out (by kernel_rfl)) hHeld ?_ (by rintro w' ⟨s0, s1, s2, s3, s4, s5, s6, s7, s8, s9, s10, s11, s12, s13, s14⟩; (first | (refine load_cells_11 (ty := 24) (x := .tmp 3) (g := B2) ?hlo_ ?hx_ Try.underlying24 ?hd_ ?hi_ s0 s1 s2 s3 s4 s5 s6 s7 s8 s9 s10; (case hlo_ => rfl); (case hx_ => rfl); (case hd_ => rfl); (case hi_ => kernel_rfl)) | (go_simp; with_reducible rfl)))
     refine tak_ 5 (some 36) rfl rfl (take_ofW HT_.out HW_.out (by kernel_rfl)) hHeld ?_ (by rintro w' ⟨s0, s1, s2, s3, s4, s5, s6, s7, s8, s9, s10, s11, s12, s13, s14⟩; (first | (refine load_cells_11 (ty := 24) (x := .tmp 3) (g := B2) ?hlo_ ?hx_ Try.underlying24 ?hd_ ?hi_ s0 s1 s2 s3 s4 s5 s6 s7 s8 s9 s10; (case hlo_ => rfl); (case hx_ => rfl); (case hd_ => rfl); (case hi_ => kernel_rfl)) | (go_simp; with_reducible rfl)))
     refine tak_ 7 (some 38) rfl rfl (take_ofW HT_.out HW_.out (by kernel_rfl)) hHeld ?_ (by rintro w' ⟨s0, s1, s2, s3, s4, s5, s6, s7, s8, s9, s10, s11, s12, s13, s14⟩; (first | (refine load_cells_11 (ty := 24) (x := .tmp 3) (g := B2) ?hlo_ ?hx_ Try.underlying24 ?hd_ ?hi_ s0 s1 s2 s3 s4 s5 s6 s7 s8 s9 s10; (case hlo_ => rfl); (case hx_ => rfl); (case hd_ => rfl); (case hi_ => kernel_rfl)) | (go_simp; with_reducible rfl)))
     refine tak_ 9 (some 40) rfl rfl (take_ofW HT_.out HW_.out (by kernel_rfl)) hHeld ?_ (by rintro w' ⟨s0, s1, s2, s3, s4, s5, s6, s7, s8, s9, s10, s11, s12, s13, s14⟩; (first | (refine load_cells_11 (ty := 24) (x := .tmp 3) (g := B2) ?hlo_ ?hx_ Try.underlying24 ?hd_ ?hi_ s0 s1 s2 s3 s4 s5 s6 s7 s8 s9 s10; (case hlo_ => rfl); (case hx_ => rfl); (case hd_ => rfl); (case hi_ => kernel_rfl)) | (go_simp; with_reducible rfl)))
     refine tak_ 11 (some 42) rfl rfl (take_ofW HT_.out HW_.out (by kernel_rfl)) hHeld ?_ (by rintro w' ⟨s0, s1, s2, s3, s4, s5, s6, s7, s8, s9, s10, s11, s12, s13, s14⟩; (first | (refine load_cells_11 (ty := 24) (x := .tmp 3) (g := B2) ?hlo_ ?hx_ Try.underlying24 ?hd_ ?hi_ s0 s1 s2 s3 s4 s5 s6 s7 s8 s9 s10; (case hlo_ => rfl); (case hx_ => rfl); (case hd_ => rfl); (case hi_ => kernel_rfl)) | (go_simp; with_reducible rfl)))
     refine oon_ 10 (some 41) rfl rfl (one_of HT_.out (by kernel_rfl)) (fun K hK => ?_)
     refine gos_ Try.func9 (round_Play.calls E0 Ba Bb Bc Bd Be Bf Bg Bh Bi Bj _ _ B3 _ _ l1 Bp Bq _ _ B6 _ _ B7 _ _ _ _ _ (Kd.C_below Bk.out HB.out) Bl.out (Kd.C_below Ej.out HB.out) Ek.out (Kd.C_below Bt.out HB.out) Bu.out (Kd.C_below Bv.out HB.out) Bw.out Ey.out) ?_
     rintro e w38 ⟨v410, v413, rfl, Et, Eu, hb⟩
     refine ⟨_, rfl, ?_⟩
     have Bn := am_ (Kd.R_lower (Kd.R_mono (ok' := fun k_ => True) Et (fun _ hk_ => trivial)) (below_size HB.out))
     have Bo := am_ (Kd.N_lower (Kd.N_mono (ok' := fun k_ => some k_ ≠ (v410 : Value).ownBlock ∧ k_ ≠ B2 ∧ k_ ≠ Bm) Eu (fun k_ hk_ => ⟨hk_.2, (Kd.freshB (g := B2) (o := .cells #[.int .i64 Ba, .int .i64 Bb, .int .i64 Bc, .int .i64 Bd, .int .i64 Be, .int .i64 Bf, .int .i64 Bg, .int .i64 Bh, .int .i64 Bi, .int .i64 Bj, .slice Br B3.length Bs] 24 (0, 0)) (by (with_reducible repeat (first | apply kn_ | apply kd_ | apply ka_)); exact B0.out) k_ hk_.1), (Kd.freshB (g := Bm) (o := .cells #[.int .i64 Bp, .string Bq, .slice By B6.length Bz, .slice D0 B7.length D1] 32 (0, 0)) (by (with_reducible repeat (first | apply kn_ | apply kd_ | apply ka_)); exact B1.out) k_ hk_.1)⟩)) (below_size HB.out))
     replace B0 := bkb_ B0 hb
     replace B1 := bkb_ B1 hb
     replace HB := bst_ HB hb
     (try clear hb)
     (try clear hb2)
     (try clear hk)
     (try clear hi)
     (try clear Et)
     (try clear Eu)
     obtain ⟨F1, F2, Dy⟩ := Kd.R_slice Bn.out
     (first | subst Dy | (injection Dy with f1_ f2_ f3_; have Ef := f1_.symm; have Eg := f3_.symm; clear f1_ f2_ f3_; subst Ef; subst Eg))
     obtain ⟨F3, F4, Dz⟩ := Kd.N_slice Bo.out
     (first | subst Dz | (injection Dz with f1_ f2_ f3_; have Ef := f1_.symm; have Eg := f3_.symm; clear f1_ f2_ f3_; subst Ef; subst Eg))
     refine hK.out _ _ (and_11 B0.out ⟨(blk_cell B1.out 0).trans rfl, (blk_cell B1.out 1).trans rfl, (blk_cell B1.out 2).trans rfl, (blk_cell B1.out 3).trans rfl⟩) (fun hHeld => ?_)
     clear hK K
     refine nor_ 41 ?_
     refine oon_ 12 (some 43) rfl rfl (one_of HT_.out (by kernel_rfl)) (fun K hK => ?_)
     refine gos_ Try.func11 (r38_Same.calls E0 E9 Ea _ _ Eb _ _ Ec Bp Bq _ _ B6 _ _ B7 _ _ (Kd.R_reads' Bn.out).2.2 (Kd.R_reads' Bn.out).2.1 (Kd.N_reads' Bo.out).2.2 (Kd.N_reads' Bo.out).2.1 (Kd.C_below Bt.out HB.out) Bu.out (Kd.C_below Bv.out HB.out) Bw.out Ez.out) ?_
     rintro e w41 ⟨rfl, hb⟩
     refine ⟨_, rfl, ?_⟩
     replace Bn := am_ (Kd.R_below Bn.out hb)
     replace Bo := am_ (Kd.N_below Bo.out hb)
     replace B0 := bkb_ B0 hb
     replace B1 := bkb_ B1 hb
     replace HB := bst_ HB hb
     (try clear hb)
     (try clear hb2)
     (try clear hk)
     (try clear hi)
     refine hK.out _ _ (and_11 B0.out ⟨(blk_cell B1.out 0).trans rfl, (blk_cell B1.out 1).trans rfl, (blk_cell B1.out 2).trans rfl, (blk_cell B1.out 3).trans rfl⟩) (fun hHeld => ?_)
     clear hK K
     refine nor_ 43 ?_
     refine pur_ 13 (some 44) rfl rfl (any_of HT_.out (by kernel_rfl)) ?_
     refine oon_ 14 (some 45) rfl rfl (one_of HT_.out (by kernel_rfl)) (fun K hK => ?_)
     refine gos_ Try.func8 (l38_known.calls E0  _ _ F0.out) ?_
     rintro e w42 ⟨rfl, hb⟩
     refine ⟨_, rfl, ?_⟩
     replace Bn := am_ (Kd.R_below Bn.out hb)
     replace Bo := am_ (Kd.N_below Bo.out hb)
     replace B0 := bkb_ B0 hb
     replace B1 := bkb_ B1 hb
     replace HB := bst_ HB hb
     (try clear hb)
     (try clear hb2)
     (try clear hk)
     (try clear hi)
     refine hK.out _ _ (and_11 B0.out ⟨(blk_cell B1.out 0).trans rfl, (blk_cell B1.out 1).trans rfl, (blk_cell B1.out 2).trans rfl, (blk_cell B1.out 3).trans rfl⟩) (fun hHeld => ?_)
     clear hK K
     refine nor_ 45 ?_
     refine pur_ 15 (some 46) rfl rfl (any_of HT_.out (by kernel_rfl)) ?_
     refine pur_ 16 (some 6) rfl rfl (any_of HT_.out (by kernel_rfl)) ?_
     refine done_ (done_of HT_.out (by kernel_rfl)) ?_
     try go_wp2
     go_ret
     exact ⟨by first | rfl | (simp [*] <;> rfl), by repeat (first | (with_reducible first | exact HB.out | apply ba_ | apply bn_ | apply bd_ | refine bs_ ?_ B8.out | refine bs_ ?_ B9.out) | exact HB.out)⟩
    ·replace E2 := Bool.eq_false_iff.mpr E2
     subst E2
     rw [if_neg (show ¬ (false = true) by decide)] at H
     exact absurd H (by simp)
end Go.Proofs.Ytdnccjlfongdeaa.Gn
