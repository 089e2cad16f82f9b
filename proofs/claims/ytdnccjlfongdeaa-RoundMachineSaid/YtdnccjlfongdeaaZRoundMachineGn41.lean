import Derived.Test.YtdnccjlfongdeaaZRoundMachineGn0
import Derived.Test.YtdnccjlfongdeaaZRoundMachineGn2
import Derived.Test.YtdnccjlfongdeaaZRoundMachineGn3
import Derived.Test.YtdnccjlfongdeaaZRoundMachineGn12
import Derived.Test.YtdnccjlfongdeaaZRoundMachineGn16
import Derived.Test.YtdnccjlfongdeaaZRoundMachineGn20
import Derived.Test.YtdnccjlfongdeaaZRoundMachineGn22
import Derived.Test.YtdnccjlfongdeaaZRoundMachineGn24
namespace Go.Proofs.Ytdnccjlfongdeaa.Gn
open Go.RowKit Go.Proofs.YtdnccjlfongdeaaW.PrintWords Go.Proofs.YtdnccjlfongdeaaW.PrintLast Go.Proofs.YtdnccjlfongdeaaW.PrintMore
attribute [local go_sem] max2_int min2_int max_two min_two max_three min_three max_four min_four   -- for this text's walks alone
set_option linter.unusedVariables false
set_option linter.unusedSimpArgs false
def l38_RoundMachine.j0 : Nat → List ByteArray → List (List (S45)) → Bool → Int → Int → Int → Int → Int → Int → Int → Int → Int → Int → List Int → List Int → Int → ByteArray → Option (Bool)
 | 0, _, _, _, _, _, _, _, _, _, _, _, _, _, _, _, _, _ => none
 | k + 1, x1, x2, Bl, B0, B1, B2, B3, B4, B5, B6, B7, B8, B9, Ba, Bd, Be, Bf => if Bl = true then ((l38_known.f k).bind fun Bg => (some Bg)) else ((round_Play.f k B0 B1 B2 B3 B4 B5 B6 B7 B8 B9 Ba Bd Be Bf x1 x2).bind fun Bb => ((round_Play.f k B0 B1 B2 B3 B4 B5 B6 B7 B8 B9 Ba Bd (wrap64 (Bb.1 + 1)) (⟨#[]⟩ : ByteArray) ([] : List ByteArray) ([] : List (List (S45)))).bind fun Bc => ((round_Fits.f k B0 B1 B2 B3 B4 B5 B6 B7 B8 B9 Ba Bd Bb.1 Bb.2.1 Bb.2.2.1 Bb.2.2.2).bind fun Bh => (if Bh = 0 then ((round_Fits.f k B0 B1 B2 B3 B4 B5 B6 B7 B8 B9 Ba Bd Bc.1 Bc.2.1 Bc.2.2.1 Bc.2.2.2).bind fun Bi => (if Bi = 0 then ((round_Follows.f k B0 B1 B2 B3 B4 B5 B6 B7 B8 B9 Ba Bb.1 Bb.2.1 Bb.2.2.1 Bb.2.2.2 Bc.1 Bc.2.1 Bc.2.2.1 Bc.2.2.2).bind fun Bj => (if Bj = true then ((l38_known.f k).bind fun Bk => (some Bk)) else (none))) else (none))) else (none)))))
def l38_RoundMachine.f (k : Nat) (B4 B5 B6 B7 B8 B9 Ba Bb Bc Bd : Int) (B0 B1 : List Int) (B3 : Int) (B2 : ByteArray) (l1 : List ByteArray) (l2 : List (List (S45))) : Option (Bool) := (r03_Plain.f k B4 B5 B6 B7 B8 B9 Ba Bb Bc Bd B0).bind fun Be => (if Be = 0 then ((r38_Few.f k l1 l2).bind fun Bf => (if Bf = true then (if (B1.length : Int) > 20 then (l38_RoundMachine.j0 k l1 l2 true B4 B5 B6 B7 B8 B9 Ba Bb Bc Bd B0 B1 B3 B2) else (l38_RoundMachine.j0 k l1 l2 (decide ((B2.size : Int) > 100)) B4 B5 B6 B7 B8 B9 Ba Bb Bc Bd B0 B1 B3 B2)) else (l38_RoundMachine.j0 k l1 l2 true B4 B5 B6 B7 B8 B9 Ba Bb Bc Bd B0 B1 B3 B2))) else (l38_RoundMachine.j0 k l1 l2 true B4 B5 B6 B7 B8 B9 Ba Bb Bc Bd B0 B1 B3 B2))
set_option maxHeartbeats 8000000 in
set_option maxRecDepth 100000 in
theorem l38_RoundMachine.calls (k : Nat) (Bd Be Bf Bg Bh Bi Bj Bk Bl Bm : Int) (Bt : Option Addr) (Bu : Nat) (B5 : List Int) (Bv : Option Addr) (Bw : Nat) (B3 : List Int) (Bq : Int) (Bn : ByteArray) (A1 : Option Addr) (c1 : Nat) (l1 : List ByteArray) (A2 : Option Addr) (c2 : Nat) (l2 : List (List (S45))) (r : Bool) (w : World) (Dn : Kd.C (Kd.int .i64) w Bt B5.length B5) (Do : B5.length ≤ Bu) (Dp : Kd.C (Kd.int .i64) w Bv B3.length B3) (Dq : B3.length ≤ Bw) (F6 : Kd.C Kd.string w A1 l1.length l1) (F7 : l1.length ≤ c1) (F8 : Kd.C (Kd.slice 45 k45) w A2 l2.length l2) (F9 : l2.length ≤ c2) (h : l38_RoundMachine.f k Bd Be Bf Bg Bh Bi Bj Bk Bl Bm B5 B3 Bq Bn l1 l2 = some r) :
  Calls Try.prog 5 #[.agg #[.int .i64 Bd, .int .i64 Be, .int .i64 Bf, .int .i64 Bg, .int .i64 Bh, .int .i64 Bi, .int .i64 Bj, .int .i64 Bk, .int .i64 Bl, .int .i64 Bm, .slice Bt B5.length Bu, .slice Bv B3.length Bw, .int .i64 Bq, .string Bn], .slice A1 l1.length c1, .slice A2 l2.length c2] w fun e w' => e = .returned (.bool r) ∧ Below w.heap.size w w' := by
 have Fy := Try.underlying24
 have Fz := Try.underlying32
 have Br := am_ Dn
 have Bs := am_ Do
 clear Dn Do
 have Dc := am_ Dp
 have Dd := am_ Dq
 clear Dp Dq
 have Em := am_ F6
 have En := am_ F7
 clear F6 F7
 have Eo := am_ F8
 have Ep := am_ F9
 clear F8 F9
 have HB := am_ (Below.refl w.heap.size w)
 have H := h
 unfold l38_RoundMachine.f at H
 clear h
 have Eq := am_ H
 clear H
 go_enter Try.func5, Try.ntmps5
 go_upto_region 1 with (first | ((with_reducible refine gate_load (t := 26) (x := .tmp 3) rfl ?_); refine lrg_ 26 (.tmp 3) B9 26 (by (with_reducible repeat (first | apply kn_ | apply kd_ | apply ka_)); with_reducible exact B0.out) Try.underlying26 ?_) | ((with_reducible refine gate_dst (N := 3) rfl ?_); (try (refine gate_guard (by rfl) ?_; dsimp only)); refine bxe_ 3 26 #[.int .i64 Bd, .int .i64 Be, .int .i64 Bf, .int .i64 Bg, .int .i64 Bh, .int .i64 Bi, .int .i64 Bj, .int .i64 Bk, .int .i64 Bl, .int .i64 Bm, .slice Bt B5.length Bu, .slice Bv B3.length Bw, .int .i64 Bq, .string Bn] ?_; intro B9 hg w5 hbox hb; have B0 := am_ (hbox); have E0 := gwk_ HB hg; have Bo := E0; replace HB := bst_ HB hb; clear hb hbox hg))
 (try simp only [Act.put, zs_])
 go_cut [30] (fun v30 wc => ∃ (kq : Nat) (Dh : Bool), v30 = .bool Dh ∧ Aside0 (l38_RoundMachine.j0 kq l1 l2 Dh Bd Be Bf Bg Bh Bi Bj Bk Bl Bm B5 B3 Bq Bn = some r) ∧ Aside0 (kq ≤ k) ∧ Aside0 (wc.heap[B9]? = some (.cells #[.int .i64 Bd, .int .i64 Be, .int .i64 Bf, .int .i64 Bg, .int .i64 Bh, .int .i64 Bi, .int .i64 Bj, .int .i64 Bk, .int .i64 Bl, .int .i64 Bm, (.slice Bt B5.length Bu), (.slice Bv B3.length Bw), .int .i64 Bq, .string Bn] 26 (0, 0))) ∧ Aside0 (Below w.heap.size w wc))
 case first =>
  have H := Eq.out
  clear Eq
  obtain ⟨Dr, A6, H⟩ := bes_ H
  try dsimp only at H
  by_cases c7 : Dr = 0
  ·rw [if_pos c7] at H
   have Dj : (Dr == 0) = true := beq_iff_eq.mpr c7
   have E1 : (Dr != 0) = false := bne_eq_false_iff_eq.mpr c7
   clear c7
   (first | rw [Dj] | (simp only [i64_w, i32_w]; rw [Dj]) | skip)
   obtain ⟨Er, A8, H⟩ := bes_ H
   try dsimp only at H
   by_cases c9 : Er = true
   ·subst c9
    rw [if_pos rfl] at H
    by_cases Dy : (B3.length : Int) > 20
    rw [if_pos Dy] at H
    have Ds : decide (20 < (B3.length : Int)) = true := decide_eq_true Dy
    have Dt : decide (20 < B3.length) = true := decide_eq_true (by omega)
    rotate_left
    rw [if_neg Dy] at H
    have Ds : decide (20 < (B3.length : Int)) = false := decide_eq_false Dy
    have Dt : decide (20 < B3.length) = false := decide_eq_false (by omega)
    rotate_left
    all_goals
     clear Dy
     have H' := am_ H
     clear H
     have E2 := cells_14 B0.out
     have E3 := frozen_14 B0.out
     go_wp2_with (first | ((with_reducible refine gate_load (t := 26) (x := .tmp 3) rfl ?_); refine lrg_ 26 (.tmp 3) B9 26 (by (with_reducible repeat (first | apply kn_ | apply kd_ | apply ka_)); with_reducible exact B0.out) Try.underlying26 ?_) | ((with_reducible refine gate_callee (f := 16) rfl ?_); refine gom_ (some 11) Try.func16 (r03_Plain.calls k Bd Be Bf Bg Bh Bi Bj Bk Bl Bm _ _ B5 _ _ (Kd.C_below Br.out HB.out) Bs.out A6.out) ?_; rintro e w12 ⟨rfl, hb⟩; refine ⟨_, rfl, ?_⟩; replace B0 := bkb_ B0 hb; replace HB := bst_ HB hb; (try clear hb)) | (go_at_call 7; (with_reducible refine (r38_Few.calls k _ _ l1 _ _ l2 _ _ (Kd.C_below Em.out HB.out) En.out (Kd.C_below Eo.out HB.out) Ep.out A8.out).mono ?_); rintro e w' ⟨rfl, ⟨nd, rfl⟩⟩; have Es := cells_14 B0.out; have Et := frozen_14 B0.out))
     go_meet
    ·case rel => exact ⟨_, (true), (by first | rfl | (simp; done) | (simp [*]; done)), H', ⟨by first | omega | exact Nat.le_refl _⟩, ⟨by (with_reducible repeat (first | apply kn_ | apply kd_ | apply ka_)); exact B0.out⟩, ⟨by repeat (first | (with_reducible first | exact HB.out | apply ba_ | apply bn_ | apply bd_ | refine bs_ ?_ Bo.out) | exact HB.out)⟩⟩
    ·case rel => exact ⟨_, (decide ((Bn.size : Int) > 100)), (by first | rfl | (simp; done) | (simp [*]; done)), H', ⟨by first | omega | exact Nat.le_refl _⟩, ⟨by (with_reducible repeat (first | apply kn_ | apply kd_ | apply ka_)); exact B0.out⟩, ⟨by repeat (first | (with_reducible first | exact HB.out | apply ba_ | apply bn_ | apply bd_ | refine bs_ ?_ Bo.out) | exact HB.out)⟩⟩
   ·replace c9 := Bool.eq_false_iff.mpr c9
    subst c9
    rw [if_neg (show ¬ (false = true) by decide)] at H
    have H' := am_ H
    clear H
    have E4 := cells_14 B0.out
    have E5 := frozen_14 B0.out
    go_wp2_with (first | ((with_reducible refine gate_load (t := 26) (x := .tmp 3) rfl ?_); refine lrg_ 26 (.tmp 3) B9 26 (by (with_reducible repeat (first | apply kn_ | apply kd_ | apply ka_)); with_reducible exact B0.out) Try.underlying26 ?_) | ((with_reducible refine gate_callee (f := 16) rfl ?_); refine gom_ (some 11) Try.func16 (r03_Plain.calls k Bd Be Bf Bg Bh Bi Bj Bk Bl Bm _ _ B5 _ _ (Kd.C_below Br.out HB.out) Bs.out A6.out) ?_; rintro e w18 ⟨rfl, hb⟩; refine ⟨_, rfl, ?_⟩; replace B0 := bkb_ B0 hb; replace HB := bst_ HB hb; (try clear hb)) | (go_at_call 7; (with_reducible refine (r38_Few.calls k _ _ l1 _ _ l2 _ _ (Kd.C_below Em.out HB.out) En.out (Kd.C_below Eo.out HB.out) Ep.out A8.out).mono ?_); rintro e w' ⟨rfl, ⟨nd, rfl⟩⟩))
    go_meet
    case rel => exact ⟨_, (true), (by first | rfl | (simp; done) | (simp [*]; done)), H', ⟨by first | omega | exact Nat.le_refl _⟩, ⟨by (with_reducible repeat (first | apply kn_ | apply kd_ | apply ka_)); exact B0.out⟩, ⟨by repeat (first | (with_reducible first | exact HB.out | apply ba_ | apply bn_ | apply bd_ | refine bs_ ?_ Bo.out) | exact HB.out)⟩⟩
  ·rw [if_neg c7] at H
   have Dj : (Dr == 0) = false := beq_eq_false_iff_ne.mpr c7
   have E1 : (Dr != 0) = true := bne_iff_ne.mpr c7
   (first | rw [Dj] | (simp only [i64_w, i32_w]; rw [Dj]) | skip)
   have H' := am_ H
   clear H
   have E6 := cells_14 B0.out
   have E7 := frozen_14 B0.out
   go_wp2_with (first | ((with_reducible refine gate_load (t := 26) (x := .tmp 3) rfl ?_); refine lrg_ 26 (.tmp 3) B9 26 (by (with_reducible repeat (first | apply kn_ | apply kd_ | apply ka_)); with_reducible exact B0.out) Try.underlying26 ?_) | ((with_reducible refine gate_callee (f := 16) rfl ?_); refine gom_ (some 11) Try.func16 (r03_Plain.calls k Bd Be Bf Bg Bh Bi Bj Bk Bl Bm _ _ B5 _ _ (Kd.C_below Br.out HB.out) Bs.out A6.out) ?_; rintro e w20 ⟨rfl, hb⟩; refine ⟨_, rfl, ?_⟩; replace B0 := bkb_ B0 hb; replace HB := bst_ HB hb; (try clear hb)))
   go_meet
   case rel => exact ⟨_, (true), (by first | rfl | (simp; done) | (simp [*]; done)), H', ⟨by first | omega | exact Nat.le_refl _⟩, ⟨by (with_reducible repeat (first | apply kn_ | apply kd_ | apply ka_)); exact B0.out⟩, ⟨by repeat (first | (with_reducible first | exact HB.out | apply ba_ | apply bn_ | apply bd_ | refine bs_ ?_ Bo.out) | exact HB.out)⟩⟩
 case rest =>
  clear Eq
  try clear c1
  try clear c2
  try clear p2
  try clear c5
  try clear c7
  try clear Dj
  try clear E1
  try clear c9
  try clear Dy
  try clear Ds
  try clear Dt
  try clear c16
  try clear E2
  try clear hcz13_0 hcz13_1 hcz13_2 hcz13_3 hcz13_4 hcz13_5 hcz13_6 hcz13_7 hcz13_8 hcz13_9 hcz13_10 hcz13_11 hcz13_12 hcz13_13
  try clear hcz14
  try clear hcz16_0 hcz16_1 hcz16_2 hcz16_3 hcz16_4 hcz16_5 hcz16_6 hcz16_7 hcz16_8 hcz16_9 hcz16_10 hcz16_11 hcz16_12 hcz16_13
  try clear E4
  try clear E6
  try clear E3
  try clear hfz13_0 hfz13_1 hfz13_2 hfz13_3 hfz13_4 hfz13_5 hfz13_6 hfz13_7 hfz13_8 hfz13_9 hfz13_10 hfz13_11 hfz13_12 hfz13_13
  try clear hfz14
  try clear hfz16_0 hfz16_1 hfz16_2 hfz16_3 hfz16_4 hfz16_5 hfz16_6 hfz16_7 hfz16_8 hfz16_9 hfz16_10 hfz16_11 hfz16_12 hfz16_13
  try clear E5
  try clear E7
  obtain ⟨kq, Dh, rfl, HA, G7, B0, HB⟩ := hcut
  cases kq with
  | zero => exact absurd HA.out (by simp [l38_RoundMachine.j0])
  | succ Du =>
   have H := HA.out
   clear HA
   simp only [l38_RoundMachine.j0] at H
   by_cases Eg : Dh = true
   ·subst Eg
    rw [if_pos rfl] at H
    replace H := Option.bind_eq_some_iff.mp H
    obtain ⟨Eu, E8, H⟩ := H
    replace H : (some Eu) = some r := H
    have G0 := am_ E8
    clear E8
    obtain rfl := Option.some.inj H
    go_wp2_with (first | ((with_reducible refine gate_load (t := 26) (x := .tmp 3) rfl ?_); refine lrg_ 26 (.tmp 3) B9 26 (by (with_reducible repeat (first | apply kn_ | apply kd_ | apply ka_)); with_reducible exact B0.out) Try.underlying26 ?_) | ((with_reducible refine gate_callee (f := 8) rfl ?_); refine gom_ (some 31) Try.func8 (l38_known.calls Du  _ _ G0.out) ?_; rintro e w23 ⟨rfl, hb⟩; refine ⟨_, rfl, ?_⟩; replace B0 := bkb_ B0 hb; replace HB := bst_ HB hb; (try clear hb)))
    go_ret
    exact ⟨by first | rfl | (simp [*] <;> rfl), by repeat (first | (with_reducible first | exact HB.out | apply ba_ | apply bn_ | apply bd_ | refine bs_ ?_ Bo.out) | exact HB.out)⟩
   ·replace Eg := Bool.eq_false_iff.mpr Eg
    subst Eg
    rw [if_neg (show ¬ (false = true) by decide)] at H
    replace H := Option.bind_eq_some_iff.mp H
    obtain ⟨⟨Bp, By, Bx, D2⟩, E9, H⟩ := H
    try dsimp only at H
    have G1 := am_ E9
    clear E9
    replace H := Option.bind_eq_some_iff.mp H
    obtain ⟨⟨D3, D6, D4, D8⟩, Ea, H⟩ := H
    try dsimp only at H
    have G2 := am_ Ea
    clear Ea
    obtain ⟨Dv, G3, H⟩ := bes_ H
    try dsimp only at H
    by_cases Eb : Dv = 0
    ·rw [if_pos Eb] at H
     have Fa : (Dv == 0) = true := beq_iff_eq.mpr Eb
     have Fb : (Dv != 0) = false := bne_eq_false_iff_eq.mpr Eb
     clear Eb
     obtain ⟨Dw, G4, H⟩ := bes_ H
     try dsimp only at H
     by_cases Ec : Dw = 0
     ·rw [if_pos Ec] at H
      have Fc : (Dw == 0) = true := beq_iff_eq.mpr Ec
      have Fd : (Dw != 0) = false := bne_eq_false_iff_eq.mpr Ec
      clear Ec
      obtain ⟨Ev, G5, H⟩ := bes_ H
      try dsimp only at H
      by_cases Eh : Ev = true
      ·subst Eh
       rw [if_pos rfl] at H
       replace H := Option.bind_eq_some_iff.mp H
       obtain ⟨Ew, Ed, H⟩ := H
       replace H : (some Ew) = some r := H
       have G6 := am_ Ed
       clear Ed
       obtain rfl := Option.some.inj H
       have Fe := cells_14 B0.out
       have Ff := frozen_14 B0.out
       go_wp2_with (first | ((with_reducible refine gate_load (t := 26) (x := .tmp 3) rfl ?_); refine lrg_ 26 (.tmp 3) B9 26 (by (with_reducible repeat (first | apply kn_ | apply kd_ | apply ka_)); with_reducible exact B0.out) Try.underlying26 ?_) | ((with_reducible refine gate_load (t := 26) (x := .tmp 3) rfl ?_); refine load_row_g (cs := #[.int .i64 Bd, .int .i64 Be, .int .i64 Bf, .int .i64 Bg, .int .i64 Bh, .int .i64 Bi, .int .i64 Bj, .int .i64 Bk, .int .i64 Bl, .int .i64 Bm, .slice Bt B5.length Bu, .slice Bv B3.length Bw, .int .i64 Bq, .string Bn]) ?hw 26 (.tmp 3) ?h2 B9 ?hx 26 (fr := (0, 0)) (d := ?_) ?hg ?h3 ?h4 ?hi ?_; (case hw => first | (with_reducible rfl) | (go_simp; done) | rfl); (case h2 => rfl); (case hx => first | (with_reducible rfl) | (go_simp; done) | rfl); (case hg => exact (by (iterate 4 ((with_reducible repeat (first | apply kn_ | apply kd_ | apply ka_)); refine blk_far ?_ Bc.out _)); (with_reducible repeat (first | apply kn_ | apply kd_ | apply ka_)); exact B0.out)); (case h3 => exact Try.underlying26); (case h4 => rfl); (case hi => kernel_rfl)) | ((with_reducible refine gate_callee (f := 9) rfl ?_); refine gom_ (some 42) Try.func9 (round_Play.calls Du Bd Be Bf Bg Bh Bi Bj Bk Bl Bm _ _ B5 _ _ B3 Bq Bn _ _ l1 _ _ l2 _ _ _ _ _ (Kd.C_below Br.out HB.out) Bs.out (Kd.C_below Dc.out HB.out) Dd.out (Kd.C_below Em.out HB.out) En.out (Kd.C_below Eo.out HB.out) Ep.out G1.out) ?_; rintro e w34 ⟨v408, v411, rfl, Dx, Dz, hb⟩; refine ⟨_, rfl, ?_⟩; have B6 := am_ (Kd.R_lower (Kd.R_mono (ok' := fun k_ => True) Dx (fun _ hk_ => trivial)) (below_size HB.out)); have B7 := am_ (Kd.N_lower (Kd.N_mono (ok' := fun k_ => some k_ ≠ (v408 : Value).ownBlock ∧ k_ ≠ B9) Dz (fun k_ hk_ => ⟨hk_.2, (Kd.freshB (g := B9) (o := .cells #[.int .i64 Bd, .int .i64 Be, .int .i64 Bf, .int .i64 Bg, .int .i64 Bh, .int .i64 Bi, .int .i64 Bj, .int .i64 Bk, .int .i64 Bl, .int .i64 Bm, .slice Bt B5.length Bu, .slice Bv B3.length Bw, .int .i64 Bq, .string Bn] 26 (0, 0)) (by (with_reducible repeat (first | apply kn_ | apply kd_ | apply ka_)); exact B0.out) k_ hk_.1)⟩)) (below_size HB.out)); replace B0 := bkb_ B0 hb; replace HB := bst_ HB hb; (try clear hb); (try clear Dx); (try clear Dz)) | ((with_reducible refine gate_dst (N := 7) rfl ?_); (try (refine gate_guard (by rfl) ?_; dsimp only)); refine bxe_ 7 32 #[.int .i64 0, .string (⟨#[]⟩ : ByteArray), .slice none 0 0, .slice none 0 0] ?_; intro B2 hg w35 hbox hb; replace B6 := am_ (Kd.R_below B6.out hb); replace B7 := am_ (Kd.N_below (Kd.N_elderB (by (with_reducible repeat (first | apply Kd.N_alloc | apply Kd.N_drewN | apply Kd.N_drew)); exact B7.out) B2 (Nat.le_of_eq hg.symm)) hb); have B4 := am_ (hbox); have Ee := gwk_ HB hg; have D7 := Ee; replace HB := bst_ HB hb; have Bc := nbk_ B0 hg; have Dk := nbs_ Bc; replace B0 := bkb_ B0 hb; clear hb hbox hg; have Fg := Dk.out; have Fh := Bc.out; have Fi := cells_4 B4.out; have Fj := frozen_4 B4.out; obtain ⟨D5, Bz, Ex⟩ := Kd.R_slice B6.out; subst Ex; obtain ⟨De, D9, Ey⟩ := Kd.N_slice B7.out; subst Ey; have Ez := cells_14 B0.out; have F0 := frozen_14 B0.out) | ((with_reducible refine gate_callee (f := 9) rfl ?_); refine goesL_ (some 50) rfl rfl Try.func9 (by kernel_rfl) rfl #[.agg #[.int .i64 Bd, .int .i64 Be, .int .i64 Bf, .int .i64 Bg, .int .i64 Bh, .int .i64 Bi, .int .i64 Bj, .int .i64 Bk, .int .i64 Bl, .int .i64 Bm, .slice Bt B5.length Bu], .slice Bv B3.length Bw, .int .i64 (wrap64 (Bp + 1)), .string (⟨#[]⟩ : ByteArray), .slice none 0 0, .slice none 0 0] rfl (by (try simp only [ms_]); first | done | rfl) ?_; (refine (round_Play.calls Du Bd Be Bf Bg Bh Bi Bj Bk Bl Bm _ _ B5 _ _ B3 (wrap64 (Bp + 1)) (⟨#[]⟩ : ByteArray) _ _ ([] : List ByteArray) _ _ ([] : List (List (S45))) _ _ _ _ _ ?side1 Bs.out ?side3 Dd.out ?side5 ?side6 ?side7 ?side8 G2.out).mono ?_); (case side1 => exact Kd.C_below Br.out (by repeat (first | (with_reducible first | exact HB.out | apply ba_ | apply bn_ | apply bd_ | refine bs_ ?_ Bo.out | refine bs_ ?_ D7.out) | exact HB.out))); (case side3 => exact Kd.C_below Dc.out (by repeat (first | (with_reducible first | exact HB.out | apply ba_ | apply bn_ | apply bd_ | refine bs_ ?_ Bo.out | refine bs_ ?_ D7.out) | exact HB.out))); (case side5 => exact Kd.C_nil _ _); (case side6 => exact Nat.le_refl _); (case side7 => exact Kd.C_nil _ _); (case side8 => exact Nat.le_refl _); rintro e w41 ⟨v417, v420, rfl, Dx, Dz, hb⟩; refine ⟨_, rfl, ?_⟩; have Ei := below_of hb (by repeat (first | (with_reducible first | exact HB.out | apply ba_ | apply bn_ | apply bd_ | refine bs_ ?_ Bo.out | refine bs_ ?_ D7.out) | exact HB.out)); have Ba := am_ (Kd.R_lower (Kd.R_new' (Kd.R_mono (ok' := fun k_ => True) Dx (fun _ hk_ => trivial)) (Kd.R_lt (by (with_reducible repeat (first | apply Kd.R_alloc | apply Kd.R_drewN | apply Kd.R_drew)); exact (Kd.R_mono (Kd.R_far (p := ⟨B2, 3, none⟩) (Kd.R_far (p := ⟨B2, 2, none⟩) (Kd.R_far (p := ⟨B2, 1, none⟩) (Kd.R_far (p := ⟨B2, 0, none⟩) (Kd.R_types B6.out B4.out (by decide)) (fun _ hk => hk.2) (.int .i64 Bp)) (fun _ hk => hk.2) (.string By)) (fun _ hk => hk.2) (.slice D5 Bx.length Bz)) (fun _ hk => hk.2) (.slice De D2.length D9)) (fun _ h_ => h_.1))))) (below_size Ei)); have Bb := am_ (Kd.N_lower (Kd.N_mono (ok' := fun k_ => some k_ ≠ (v417 : Value).ownBlock ∧ some k_ ≠ (.slice D5 Bx.length Bz : Value).ownBlock ∧ some k_ ≠ (.slice De D2.length D9 : Value).ownBlock ∧ k_ ≠ B9 ∧ k_ ≠ B2) Dz (fun k_ hk_ => ⟨hk_.2, (Kd.fresh' (Kd.R_lt (by (with_reducible repeat (first | apply Kd.R_alloc | apply Kd.R_drewN | apply Kd.R_drew)); exact (Kd.R_mono (Kd.R_far (p := ⟨B2, 3, none⟩) (Kd.R_far (p := ⟨B2, 2, none⟩) (Kd.R_far (p := ⟨B2, 1, none⟩) (Kd.R_far (p := ⟨B2, 0, none⟩) (Kd.R_types B6.out B4.out (by decide)) (fun _ hk => hk.2) (.int .i64 Bp)) (fun _ hk => hk.2) (.string By)) (fun _ hk => hk.2) (.slice D5 Bx.length Bz)) (fun _ hk => hk.2) (.slice De D2.length D9)) (fun _ h_ => h_.1)))) k_ hk_.1), (Kd.fresh' (Kd.N_lt (by (with_reducible repeat (first | apply Kd.N_alloc | apply Kd.N_drewN | apply Kd.N_drew)); exact (Kd.N_mono (Kd.N_far (p := ⟨B2, 3, none⟩) (Kd.N_far (p := ⟨B2, 2, none⟩) (Kd.N_far (p := ⟨B2, 1, none⟩) (Kd.N_far (p := ⟨B2, 0, none⟩) (Kd.N_mono B7.out (fun k_ hk => (⟨hk, hk.2⟩ : _ ∧ k_ ≠ B2))) (fun _ hk => hk.2) (.int .i64 Bp)) (fun _ hk => hk.2) (.string By)) (fun _ hk => hk.2) (.slice D5 Bx.length Bz)) (fun _ hk => hk.2) (.slice De D2.length D9)) (fun _ h_ => h_.1)))) k_ hk_.1), (Kd.freshB (g := B9) (o := .cells #[.int .i64 Bd, .int .i64 Be, .int .i64 Bf, .int .i64 Bg, .int .i64 Bh, .int .i64 Bi, .int .i64 Bj, .int .i64 Bk, .int .i64 Bl, .int .i64 Bm, .slice Bt B5.length Bu, .slice Bv B3.length Bw, .int .i64 Bq, .string Bn] 26 (0, 0)) (by (iterate 4 ((with_reducible repeat (first | apply kn_ | apply kd_ | apply ka_)); refine blk_far ?_ Bc.out _)); (with_reducible repeat (first | apply kn_ | apply kd_ | apply ka_)); exact B0.out) k_ hk_.1), (Kd.freshB (g := B2) (o := .cells #[.int .i64 Bp, .string By, .slice D5 Bx.length Bz, .slice De D2.length D9] 32 (0, 0)) (by (with_reducible repeat (first | apply kn_ | apply kd_ | apply ka_)); refine blk_put (cs := #[.int .i64 Bp, .string By, .slice D5 Bx.length Bz, .slice none 0 0]) ?_ 3 _ rfl; (with_reducible repeat (first | apply kn_ | apply kd_ | apply ka_)); refine blk_put (cs := #[.int .i64 Bp, .string By, .slice none 0 0, .slice none 0 0]) ?_ 2 _ rfl; (with_reducible repeat (first | apply kn_ | apply kd_ | apply ka_)); refine blk_put (cs := #[.int .i64 Bp, .string (⟨#[]⟩ : ByteArray), .slice none 0 0, .slice none 0 0]) ?_ 1 _ rfl; (with_reducible repeat (first | apply kn_ | apply kd_ | apply ka_)); refine blk_put (cs := #[.int .i64 0, .string (⟨#[]⟩ : ByteArray), .slice none 0 0, .slice none 0 0]) ?_ 0 _ rfl; (with_reducible repeat (first | apply kn_ | apply kd_ | apply ka_)); exact B4.out) k_ hk_.1)⟩)) (below_size Ei)); replace B6 := am_ (Kd.R_elder' (by (with_reducible repeat (first | apply Kd.R_alloc | apply Kd.R_drewN | apply Kd.R_drew)); exact (Kd.R_mono (Kd.R_far (p := ⟨B2, 3, none⟩) (Kd.R_far (p := ⟨B2, 2, none⟩) (Kd.R_far (p := ⟨B2, 1, none⟩) (Kd.R_far (p := ⟨B2, 0, none⟩) (Kd.R_types B6.out B4.out (by decide)) (fun _ hk => hk.2) (.int .i64 Bp)) (fun _ hk => hk.2) (.string By)) (fun _ hk => hk.2) (.slice D5 Bx.length Bz)) (fun _ hk => hk.2) (.slice De D2.length D9)) (fun _ h_ => h_.1))) (Kd.R_base Dx) hb); replace B7 := am_ (Kd.N_mono (Kd.N_told (Kd.N_told (Kd.N_old (by (with_reducible repeat (first | apply Kd.N_alloc | apply Kd.N_drewN | apply Kd.N_drew)); exact (Kd.N_mono (Kd.N_far (p := ⟨B2, 3, none⟩) (Kd.N_far (p := ⟨B2, 2, none⟩) (Kd.N_far (p := ⟨B2, 1, none⟩) (Kd.N_far (p := ⟨B2, 0, none⟩) (Kd.N_mono B7.out (fun k_ hk => (⟨hk, hk.2⟩ : _ ∧ k_ ≠ B2))) (fun _ hk => hk.2) (.int .i64 Bp)) (fun _ hk => hk.2) (.string By)) (fun _ hk => hk.2) (.slice D5 Bx.length Bz)) (fun _ hk => hk.2) (.slice De D2.length D9)) (fun _ h_ => h_.1))) hb) (Kd.R_base Dx)) (Kd.N_base Dz)) (fun _ h_ => h_.1)); replace B0 := am_ (blk_below (g := B9) (o := .cells #[.int .i64 Bd, .int .i64 Be, .int .i64 Bf, .int .i64 Bg, .int .i64 Bh, .int .i64 Bi, .int .i64 Bj, .int .i64 Bk, .int .i64 Bl, .int .i64 Bm, .slice Bt B5.length Bu, .slice Bv B3.length Bw, .int .i64 Bq, .string Bn] 26 (0, 0)) (by (iterate 4 ((with_reducible repeat (first | apply kn_ | apply kd_ | apply ka_)); refine blk_far ?_ Bc.out _)); (with_reducible repeat (first | apply kn_ | apply kd_ | apply ka_)); exact B0.out) hb); replace B4 := am_ (blk_below (g := B2) (o := .cells #[.int .i64 Bp, .string By, .slice D5 Bx.length Bz, .slice De D2.length D9] 32 (0, 0)) (by (with_reducible repeat (first | apply kn_ | apply kd_ | apply ka_)); refine blk_put (cs := #[.int .i64 Bp, .string By, .slice D5 Bx.length Bz, .slice none 0 0]) ?_ 3 _ rfl; (with_reducible repeat (first | apply kn_ | apply kd_ | apply ka_)); refine blk_put (cs := #[.int .i64 Bp, .string By, .slice none 0 0, .slice none 0 0]) ?_ 2 _ rfl; (with_reducible repeat (first | apply kn_ | apply kd_ | apply ka_)); refine blk_put (cs := #[.int .i64 Bp, .string (⟨#[]⟩ : ByteArray), .slice none 0 0, .slice none 0 0]) ?_ 1 _ rfl; (with_reducible repeat (first | apply kn_ | apply kd_ | apply ka_)); refine blk_put (cs := #[.int .i64 0, .string (⟨#[]⟩ : ByteArray), .slice none 0 0, .slice none 0 0]) ?_ 0 _ rfl; (with_reducible repeat (first | apply kn_ | apply kd_ | apply ka_)); exact B4.out) hb); replace HB := am_ (below_step Ei hb); clear Ei; (try clear hb); (try clear hk); (try clear Dx); (try clear Dz)) | ((with_reducible refine gate_dst (N := 8) rfl ?_); (try (refine gate_guard (by rfl) ?_; dsimp only)); refine bxe_ 8 32 #[.int .i64 0, .string (⟨#[]⟩ : ByteArray), .slice none 0 0, .slice none 0 0] ?_; intro B1 hg w42 hbox hb; replace B6 := am_ (Kd.R_below B6.out hb); replace B7 := am_ (Kd.N_below (Kd.N_elderB (by (with_reducible repeat (first | apply Kd.N_alloc | apply Kd.N_drewN | apply Kd.N_drew)); exact B7.out) B1 (Nat.le_of_eq hg.symm)) hb); replace Ba := am_ (Kd.R_below Ba.out hb); replace Bb := am_ (Kd.N_below (Kd.N_elderB (by (with_reducible repeat (first | apply Kd.N_alloc | apply Kd.N_drewN | apply Kd.N_drew)); exact Bb.out) B1 (Nat.le_of_eq hg.symm)) hb); have B8 := am_ (hbox); have Ef := gwk_ HB hg; have Di := Ef; replace HB := bst_ HB hb; have D0 := nbk_ B0 hg; have Dl := nbs_ D0; replace B0 := bkb_ B0 hb; have D1 := nbk_ B4 hg; have Dm := nbs_ D1; replace B4 := bkb_ B4 hb; clear hb hbox hg; have Fk := Dl.out; have Fl := D0.out; have Fm := Dm.out; have Fn := D1.out; have Fo := cells_4 B8.out; have Fp := frozen_4 B8.out; obtain ⟨Da, Db, F1⟩ := Kd.R_slice Ba.out; subst F1; obtain ⟨Df, Dg, F2⟩ := Kd.N_slice Bb.out; subst F2; have F3 := cells_14 B0.out; have F4 := frozen_14 B0.out; have Fq := cells_4 B4.out; have Fr := frozen_4 B4.out) | ((with_reducible refine gate_callee (f := 14) rfl ?_); refine gom_ (some 56) Try.func14 (round_Fits.calls Du Bd Be Bf Bg Bh Bi Bj Bk Bl Bm _ _ B5 _ _ B3 Bp By _ _ Bx _ _ D2 _ _ ?side1 Bs.out ?side3 Dd.out ?side5 (Kd.R_reads' B6.out).2.1 ?side7 (Kd.N_reads' B7.out).2.1 G3.out) ?_; (case side1 => exact Kd.C_below Br.out (by repeat (first | (with_reducible first | exact HB.out | apply ba_ | apply bn_ | apply bd_ | refine bs_ ?_ Bo.out | refine bs_ ?_ D7.out | refine bs_ ?_ Di.out) | exact HB.out))); (case side3 => exact Kd.C_below Dc.out (by repeat (first | (with_reducible first | exact HB.out | apply ba_ | apply bn_ | apply bd_ | refine bs_ ?_ Bo.out | refine bs_ ?_ D7.out | refine bs_ ?_ Di.out) | exact HB.out))); (case side5 => refine (Kd.R_reads' (e := 9) (base := w.heap.size) (ok := fun k_ => (True ∧ some k_ ≠ (.slice Da D4.length Db : Value).ownBlock)) (n := Bx.length) (c := Bz) ?_).2.2; exact (by (with_reducible repeat (first | apply Kd.R_alloc | apply Kd.R_drewN | apply Kd.R_drew)); exact (Kd.R_mono (Kd.R_far (p := ⟨B1, 3, none⟩) (Kd.R_far (p := ⟨B1, 2, none⟩) (Kd.R_far (p := ⟨B1, 1, none⟩) (Kd.R_far (p := ⟨B1, 0, none⟩) (Kd.R_types B6.out B8.out (by decide)) (fun _ hk => hk.2) (.int .i64 D3)) (fun _ hk => hk.2) (.string D6)) (fun _ hk => hk.2) (.slice Da D4.length Db)) (fun _ hk => hk.2) (.slice Df D8.length Dg)) (fun _ h_ => h_.1)))); (case side7 => refine (Kd.N_reads' (e := 42) (base := w.heap.size) (ok := fun k_ => (((((some k_ ≠ (.slice D5 Bx.length Bz : Value).ownBlock ∧ k_ ≠ B9) ∧ k_ ≠ B2) ∧ some k_ ≠ (.slice Da D4.length Db : Value).ownBlock) ∧ some k_ ≠ (.slice Df D8.length Dg : Value).ownBlock) ∧ k_ ≠ B1)) (n := D2.length) (c := D9) ?_).2.2; exact (by (with_reducible repeat (first | apply Kd.N_alloc | apply Kd.N_drewN | apply Kd.N_drew)); exact (Kd.N_mono (Kd.N_far (p := ⟨B1, 3, none⟩) (Kd.N_far (p := ⟨B1, 2, none⟩) (Kd.N_far (p := ⟨B1, 1, none⟩) (Kd.N_far (p := ⟨B1, 0, none⟩) (Kd.N_mono B7.out (fun k_ hk => (⟨hk, hk.2⟩ : _ ∧ k_ ≠ B1))) (fun _ hk => hk.2) (.int .i64 D3)) (fun _ hk => hk.2) (.string D6)) (fun _ hk => hk.2) (.slice Da D4.length Db)) (fun _ hk => hk.2) (.slice Df D8.length Dg)) (fun _ h_ => h_.1)))); rintro e w50 ⟨rfl, hb⟩; refine ⟨_, rfl, ?_⟩; replace B6 := am_ (Kd.R_below (by (with_reducible repeat (first | apply Kd.R_alloc | apply Kd.R_drewN | apply Kd.R_drew)); exact (Kd.R_mono (Kd.R_far (p := ⟨B1, 3, none⟩) (Kd.R_far (p := ⟨B1, 2, none⟩) (Kd.R_far (p := ⟨B1, 1, none⟩) (Kd.R_far (p := ⟨B1, 0, none⟩) (Kd.R_types B6.out B8.out (by decide)) (fun _ hk => hk.2) (.int .i64 D3)) (fun _ hk => hk.2) (.string D6)) (fun _ hk => hk.2) (.slice Da D4.length Db)) (fun _ hk => hk.2) (.slice Df D8.length Dg)) (fun _ h_ => h_.1))) hb); replace B7 := am_ (Kd.N_below (by (with_reducible repeat (first | apply Kd.N_alloc | apply Kd.N_drewN | apply Kd.N_drew)); exact (Kd.N_mono (Kd.N_far (p := ⟨B1, 3, none⟩) (Kd.N_far (p := ⟨B1, 2, none⟩) (Kd.N_far (p := ⟨B1, 1, none⟩) (Kd.N_far (p := ⟨B1, 0, none⟩) (Kd.N_mono B7.out (fun k_ hk => (⟨hk, hk.2⟩ : _ ∧ k_ ≠ B1))) (fun _ hk => hk.2) (.int .i64 D3)) (fun _ hk => hk.2) (.string D6)) (fun _ hk => hk.2) (.slice Da D4.length Db)) (fun _ hk => hk.2) (.slice Df D8.length Dg)) (fun _ h_ => h_.1))) hb); replace Ba := am_ (Kd.R_below (by (with_reducible repeat (first | apply Kd.R_alloc | apply Kd.R_drewN | apply Kd.R_drew)); exact (Kd.R_mono (Kd.R_far (p := ⟨B1, 3, none⟩) (Kd.R_far (p := ⟨B1, 2, none⟩) (Kd.R_far (p := ⟨B1, 1, none⟩) (Kd.R_far (p := ⟨B1, 0, none⟩) (Kd.R_types Ba.out B8.out (by decide)) (fun _ hk => hk.2) (.int .i64 D3)) (fun _ hk => hk.2) (.string D6)) (fun _ hk => hk.2) (.slice Da D4.length Db)) (fun _ hk => hk.2) (.slice Df D8.length Dg)) (fun _ h_ => h_.1))) hb); replace Bb := am_ (Kd.N_below (by (with_reducible repeat (first | apply Kd.N_alloc | apply Kd.N_drewN | apply Kd.N_drew)); exact (Kd.N_mono (Kd.N_far (p := ⟨B1, 3, none⟩) (Kd.N_far (p := ⟨B1, 2, none⟩) (Kd.N_far (p := ⟨B1, 1, none⟩) (Kd.N_far (p := ⟨B1, 0, none⟩) (Kd.N_mono Bb.out (fun k_ hk => (⟨hk, hk.2⟩ : _ ∧ k_ ≠ B1))) (fun _ hk => hk.2) (.int .i64 D3)) (fun _ hk => hk.2) (.string D6)) (fun _ hk => hk.2) (.slice Da D4.length Db)) (fun _ hk => hk.2) (.slice Df D8.length Dg)) (fun _ h_ => h_.1))) hb); replace B0 := am_ (blk_below (g := B9) (o := .cells #[.int .i64 Bd, .int .i64 Be, .int .i64 Bf, .int .i64 Bg, .int .i64 Bh, .int .i64 Bi, .int .i64 Bj, .int .i64 Bk, .int .i64 Bl, .int .i64 Bm, .slice Bt B5.length Bu, .slice Bv B3.length Bw, .int .i64 Bq, .string Bn] 26 (0, 0)) (by (iterate 4 ((with_reducible repeat (first | apply kn_ | apply kd_ | apply ka_)); refine blk_far ?_ D0.out _)); (with_reducible repeat (first | apply kn_ | apply kd_ | apply ka_)); exact B0.out) hb); replace B4 := am_ (blk_below (g := B2) (o := .cells #[.int .i64 Bp, .string By, .slice D5 Bx.length Bz, .slice De D2.length D9] 32 (0, 0)) (by (iterate 4 ((with_reducible repeat (first | apply kn_ | apply kd_ | apply ka_)); refine blk_far ?_ D1.out _)); (with_reducible repeat (first | apply kn_ | apply kd_ | apply ka_)); exact B4.out) hb); replace B8 := am_ (blk_below (g := B1) (o := .cells #[.int .i64 D3, .string D6, .slice Da D4.length Db, .slice Df D8.length Dg] 32 (0, 0)) (by (with_reducible repeat (first | apply kn_ | apply kd_ | apply ka_)); refine blk_put (cs := #[.int .i64 D3, .string D6, .slice Da D4.length Db, .slice none 0 0]) ?_ 3 _ rfl; (with_reducible repeat (first | apply kn_ | apply kd_ | apply ka_)); refine blk_put (cs := #[.int .i64 D3, .string D6, .slice none 0 0, .slice none 0 0]) ?_ 2 _ rfl; (with_reducible repeat (first | apply kn_ | apply kd_ | apply ka_)); refine blk_put (cs := #[.int .i64 D3, .string (⟨#[]⟩ : ByteArray), .slice none 0 0, .slice none 0 0]) ?_ 1 _ rfl; (with_reducible repeat (first | apply kn_ | apply kd_ | apply ka_)); refine blk_put (cs := #[.int .i64 0, .string (⟨#[]⟩ : ByteArray), .slice none 0 0, .slice none 0 0]) ?_ 0 _ rfl; (with_reducible repeat (first | apply kn_ | apply kd_ | apply ka_)); exact B8.out) hb); replace HB := am_ (below_step (by repeat (first | (with_reducible first | exact HB.out | apply ba_ | apply bn_ | apply bd_ | refine bs_ ?_ Bo.out | refine bs_ ?_ D7.out | refine bs_ ?_ Di.out) | exact HB.out)) hb); (try clear hb); (try clear hk); have F5 := cells_14 B0.out; have Ej := frozen_14 B0.out; have Fs := cells_4 B8.out; have Ft := frozen_4 B8.out) | (go_at_call 14; (with_reducible refine (round_Fits.calls Du Bd Be Bf Bg Bh Bi Bj Bk Bl Bm _ _ B5 _ _ B3 D3 D6 _ _ D4 _ _ D8 _ _ (Kd.C_below Br.out HB.out) Bs.out (Kd.C_below Dc.out HB.out) Dd.out (Kd.R_reads' Ba.out).2.2 (Kd.R_reads' Ba.out).2.1 (Kd.N_reads' Bb.out).2.2 (Kd.N_reads' Bb.out).2.1 G4.out).mono ?_); rintro e w53 ⟨rfl, hb⟩; replace B6 := am_ (Kd.R_below B6.out hb); replace B7 := am_ (Kd.N_below B7.out hb); replace Ba := am_ (Kd.R_below Ba.out hb); replace Bb := am_ (Kd.N_below Bb.out hb); replace B0 := bkb_ B0 hb; replace B4 := bkb_ B4 hb; replace B8 := bkb_ B8 hb; replace HB := bst_ HB hb; (try clear hb); have Ek := cells_14 B0.out; have El := frozen_14 B0.out; have Fu := cells_4 B4.out; have Fv := frozen_4 B4.out; have Fw := cells_4 B8.out; have Fx := frozen_4 B8.out) | (go_at_call 12; (with_reducible refine (round_Follows.calls Du Bd Be Bf Bg Bh Bi Bj Bk Bl Bm _ _ B5 Bp By _ _ Bx _ _ D2 D3 D6 _ _ D4 _ _ D8 _ _ (Kd.C_below Br.out HB.out) Bs.out (Kd.R_reads' B6.out).2.2 (Kd.R_reads' B6.out).2.1 (Kd.N_reads' B7.out).2.2 (Kd.N_reads' B7.out).2.1 (Kd.R_reads' Ba.out).2.2 (Kd.R_reads' Ba.out).2.1 (Kd.N_reads' Bb.out).2.2 (Kd.N_reads' Bb.out).2.1 G5.out).mono ?_); rintro e w57 ⟨rfl, hb⟩; replace B6 := am_ (Kd.R_below B6.out hb); replace B7 := am_ (Kd.N_below B7.out hb); replace Ba := am_ (Kd.R_below Ba.out hb); replace Bb := am_ (Kd.N_below Bb.out hb); replace B0 := bkb_ B0 hb; replace B4 := bkb_ B4 hb; replace B8 := bkb_ B8 hb; replace HB := bst_ HB hb; (try clear hb)) | (go_at_call 8; (with_reducible refine (l38_known.calls Du  _ _ G6.out).mono ?_); rintro e w58 ⟨rfl, hb⟩; replace B6 := am_ (Kd.R_below B6.out hb); replace B7 := am_ (Kd.N_below B7.out hb); replace Ba := am_ (Kd.R_below Ba.out hb); replace Bb := am_ (Kd.N_below Bb.out hb); replace B0 := bkb_ B0 hb; replace B4 := bkb_ B4 hb; replace B8 := bkb_ B8 hb; replace HB := bst_ HB hb; (try clear hb)))
       go_ret
       exact ⟨by first | rfl | (simp [*] <;> rfl), by repeat (first | (with_reducible first | exact HB.out | apply ba_ | apply bn_ | apply bd_ | refine bs_ ?_ Bo.out | refine bs_ ?_ D7.out | refine bs_ ?_ Di.out) | exact HB.out)⟩
      ·replace Eh := Bool.eq_false_iff.mpr Eh
       subst Eh
       rw [if_neg (show ¬ (false = true) by decide)] at H
       exact absurd H (by simp)
     ·rw [if_neg Ec] at H
      exact absurd H (by simp)
    ·rw [if_neg Eb] at H
     exact absurd H (by simp)
end Go.Proofs.Ytdnccjlfongdeaa.Gn
