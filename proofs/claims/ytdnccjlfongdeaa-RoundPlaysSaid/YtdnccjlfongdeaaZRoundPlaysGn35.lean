import Derived.Test.YtdnccjlfongdeaaZRoundPlaysGn0
import Derived.Test.YtdnccjlfongdeaaZRoundPlaysGn2
import Derived.Test.YtdnccjlfongdeaaZRoundPlaysGn3
import Derived.Test.YtdnccjlfongdeaaZRoundPlaysGn12
import Derived.Test.YtdnccjlfongdeaaZRoundPlaysGn14
import Derived.Test.YtdnccjlfongdeaaZRoundPlaysGn16
import Derived.Test.YtdnccjlfongdeaaZRoundPlaysGn22
import Derived.Test.YtdnccjlfongdeaaZRoundPlaysGn32
import Derived.Test.YtdnccjlfongdeaaZRoundPlaysGn34
namespace Go.Proofs.Ytdnccjlfongdeaa.Gn
open Go.RowKit Go.Proofs.YtdnccjlfongdeaaW.PrintWords Go.Proofs.YtdnccjlfongdeaaW.PrintLast Go.Proofs.YtdnccjlfongdeaaW.PrintMore
attribute [local go_sem] max2_int min2_int max_two min_two max_three min_three max_four min_four   -- for this text's walks alone
set_option linter.unusedVariables false
set_option linter.unusedSimpArgs false
def l38_RoundPlays.j0 : Nat → List ByteArray → List (List (S45)) → Int → Bool → Int → Int → Int → Int → Int → Int → Int → Int → Int → Int → List Int → List Int → Int → ByteArray → Option (Bool)
 | 0, _, _, _, _, _, _, _, _, _, _, _, _, _, _, _, _, _, _ => none
 | k + 1, x1, x2, x3, Bl, B2, B3, B4, B5, B6, B7, B8, B9, Ba, Bb, Bc, Bd, Be, Bf => if Bl = true then ((l38_known.f k).bind fun Bg => (some Bg)) else ((round_Play.f k B2 B3 B4 B5 B6 B7 B8 B9 Ba Bb Bc Bd Be Bf x1 x2).bind fun B0 => ((r38_Play.f k B2 B3 B4 B5 B6 B7 B8 B9 Ba Bb Bc Bd Be Bf x1 x2).bind fun B1 => ((r38_Same.f k B0.1 B0.2.1 B0.2.2.1 B0.2.2.2 B1.1 B1.2.1 B1.2.2.1 B1.2.2.2).bind fun Bh => (if Bh = true then ((round_Follows.f k B2 B3 B4 B5 B6 B7 B8 B9 Ba Bb Bc B0.1 B0.2.1 B0.2.2.1 B0.2.2.2 x3 (⟨#[]⟩ : ByteArray) ([] : List ByteArray) ([] : List (List (S45)))).bind fun Bi => ((r38_Follows.f k B2 B3 B4 B5 B6 B7 B8 B9 Ba Bb Bc B1.1 B1.2.1 B1.2.2.1 B1.2.2.2 x3 (⟨#[]⟩ : ByteArray) ([] : List ByteArray) ([] : List (List (S45)))).bind fun Bj => (if (Bi == Bj) = true then ((l38_known.f k).bind fun Bk => (some Bk)) else (none)))) else (none)))))
def l38_RoundPlays.f (k : Nat) (B4 B5 B6 B7 B8 B9 Ba Bb Bc Bd : Int) (B2 B0 : List Int) (B3 : Int) (B1 : ByteArray) (l1 : List ByteArray) (l2 : List (List (S45))) (a3 : Int) : Option (Bool) := (r38_Few.f k l1 l2).bind fun Be => (if Be = true then (if (B0.length : Int) > 20 then (l38_RoundPlays.j0 k l1 l2 a3 true B4 B5 B6 B7 B8 B9 Ba Bb Bc Bd B2 B0 B3 B1) else (l38_RoundPlays.j0 k l1 l2 a3 (decide ((B1.size : Int) > 100)) B4 B5 B6 B7 B8 B9 Ba Bb Bc Bd B2 B0 B3 B1)) else (l38_RoundPlays.j0 k l1 l2 a3 true B4 B5 B6 B7 B8 B9 Ba Bb Bc Bd B2 B0 B3 B1))
def l38_RoundPlays.T6 : Bool × List (List Nat × List Nat) := (true, [([], []), ([], []), ([0, 1], [0, 1]), ([2, 2], [2]), ([3], [3]), ([4, 3], [3, 4]), ([3], [3]), ([3], [3]), ([5, 6, 7, 3, 3], [3, 5, 6, 7]), ([3], [3]), ([9, 3], [3, 9]), ([3], [3]), ([3], [3]), ([10, 11, 12, 8, 3], [3, 10, 11, 12]), ([8, 13, 3], [3, 8, 13]), ([3, 14], [3, 14]), ([15, 13], [15]), ([16, 16], [16]), ([16, 17], [16, 17]), ([18, 17, 0, 1, 2, 3, 4, 5, 6, 7, 8, 9, 10, 11, 12, 13, 14, 15, 16, 17, 18], [18])])
def l38_RoundPlays.B6 : List Nat := [0, 0, 3, 7, 15, 31, 15, 15, 255, 15, 527, 15, 15, 8191, 16383, 32767, 65535, 131071, 262143, 524287]
theorem l38_RoundPlays.tab6 : rtab .any (opsOf Try.f3 6) = l38_RoundPlays.T6 := by kernel_rfl
theorem l38_RoundPlays.bits6 : waitsOk l38_RoundPlays.T6.2 l38_RoundPlays.B6 = true := by kernel_rfl
set_option maxHeartbeats 8000000 in
set_option maxRecDepth 100000 in
theorem l38_RoundPlays.calls (k : Nat) (Bm Bn Bo Bp Bq Br Bs Bt Bu Bv : Int) (Bh : Option Addr) (Bi : Nat) (Bd : List Int) (By : Option Addr) (Bz : Nat) (Bc : List Int) (Bf : Int) (Be : ByteArray) (A1 : Option Addr) (c1 : Nat) (l1 : List ByteArray) (A2 : Option Addr) (c2 : Nat) (l2 : List (List (S45))) (a3 : Int) (r : Bool) (w : World) (Dt : Kd.C (Kd.int .i64) w Bh Bd.length Bd) (Du : Bd.length ≤ Bi) (Dv : Kd.C (Kd.int .i64) w By Bc.length Bc) (Dw : Bc.length ≤ Bz) (Fe : Kd.C Kd.string w A1 l1.length l1) (Ff : l1.length ≤ c1) (Fg : Kd.C (Kd.slice 45 k45) w A2 l2.length l2) (Fh : l2.length ≤ c2) (h : l38_RoundPlays.f k Bm Bn Bo Bp Bq Br Bs Bt Bu Bv Bd Bc Bf Be l1 l2 a3 = some r) :
  Calls Try.prog 3 #[.agg #[.int .i64 Bm, .int .i64 Bn, .int .i64 Bo, .int .i64 Bp, .int .i64 Bq, .int .i64 Br, .int .i64 Bs, .int .i64 Bt, .int .i64 Bu, .int .i64 Bv, .slice Bh Bd.length Bi, .slice By Bc.length Bz, .int .i64 Bf, .string Be], .slice A1 l1.length c1, .slice A2 l2.length c2, .int .i64 a3] w fun e w' => e = .returned (.bool r) ∧ Below w.heap.size w w' := by
 have G3 := Try.underlying24
 have G4 := Try.underlying32
 have Di := am_ Dt
 have Dj := am_ Du
 clear Dt Du
 have Dx := am_ Dv
 have Dy := am_ Dw
 clear Dv Dw
 have Ej := am_ Fe
 have Ek := am_ Ff
 clear Fe Ff
 have El := am_ Fg
 have Em := am_ Fh
 clear Fg Fh
 have HB := am_ (Below.refl w.heap.size w)
 have H := h
 unfold l38_RoundPlays.f at H
 clear h
 have Ep := am_ H
 clear H
 go_enter Try.func3, Try.ntmps3
 go_upto_region 1 with (first | ((with_reducible refine gate_load (t := 26) (x := .tmp 4) rfl ?_); refine lrg_ 26 (.tmp 4) B4 26 (by (with_reducible repeat (first | apply kn_ | apply kd_ | apply ka_)); with_reducible exact B1.out) Try.underlying26 ?_) | ((with_reducible refine gate_dst (N := 4) rfl ?_); (try (refine gate_guard (by rfl) ?_; dsimp only)); refine bxe_ 4 26 #[.int .i64 Bm, .int .i64 Bn, .int .i64 Bo, .int .i64 Bp, .int .i64 Bq, .int .i64 Br, .int .i64 Bs, .int .i64 Bt, .int .i64 Bu, .int .i64 Bv, .slice Bh Bd.length Bi, .slice By Bc.length Bz, .int .i64 Bf, .string Be] ?_; intro B4 hg w6 hbox hb; have B1 := am_ (hbox); have E7 := gwk_ HB hg; have Bl := E7; replace HB := bst_ HB hb; clear hb hbox hg))
 (try simp only [Act.put, zs_])
 go_cut [27] (fun v27 wc => ∃ (kq : Nat) (Dm : Bool), v27 = .bool Dm ∧ Aside0 (l38_RoundPlays.j0 kq l1 l2 a3 Dm Bm Bn Bo Bp Bq Br Bs Bt Bu Bv Bd Bc Bf Be = some r) ∧ Aside0 (kq ≤ k) ∧ Aside0 (wc.heap[B4]? = some (.cells #[.int .i64 Bm, .int .i64 Bn, .int .i64 Bo, .int .i64 Bp, .int .i64 Bq, .int .i64 Br, .int .i64 Bs, .int .i64 Bt, .int .i64 Bu, .int .i64 Bv, (.slice Bh Bd.length Bi), (.slice By Bc.length Bz), .int .i64 Bf, .string Be] 26 (0, 0))) ∧ Aside0 (Below w.heap.size w wc))
 case first =>
  have H := Ep.out
  clear Ep
  obtain ⟨Eq, A7, H⟩ := bes_ H
  try dsimp only at H
  by_cases c8 : Eq = true
  ·subst c8
   rw [if_pos rfl] at H
   by_cases c9 : (Bc.length : Int) > 20
   rw [if_pos c9] at H
   have E1 : decide (20 < (Bc.length : Int)) = true := decide_eq_true c9
   have E8 : decide (20 < Bc.length) = true := decide_eq_true (by omega)
   rotate_left
   rw [if_neg c9] at H
   have E1 : decide (20 < (Bc.length : Int)) = false := decide_eq_false c9
   have E8 : decide (20 < Bc.length) = false := decide_eq_false (by omega)
   rotate_left
   all_goals
    clear c9
    (first | rw [E1] | (simp only [i64_w, i32_w]; rw [E1]) | skip)
    have H' := am_ H
    clear H
    go_wp2_with (first | ((with_reducible refine gate_load (t := 26) (x := .tmp 4) rfl ?_); refine lrg_ 26 (.tmp 4) B4 26 (by (with_reducible repeat (first | apply kn_ | apply kd_ | apply ka_)); with_reducible exact B1.out) Try.underlying26 ?_) | ((with_reducible refine gate_callee (f := 7) rfl ?_); refine gom_ (some 14) Try.func7 (r38_Few.calls k _ _ l1 _ _ l2 _ _ (Kd.C_below Ej.out HB.out) Ek.out (Kd.C_below El.out HB.out) Em.out A7.out) ?_; rintro e w' ⟨rfl, ⟨nd, rfl⟩⟩; refine ⟨_, rfl, ?_⟩; have Er := cells_14 B1.out; have Es := frozen_14 B1.out))
    go_meet
   ·case rel => exact ⟨_, (true), (by first | rfl | (simp; done) | (simp [*]; done)), H', ⟨by first | omega | exact Nat.le_refl _⟩, ⟨by (with_reducible repeat (first | apply kn_ | apply kd_ | apply ka_)); exact B1.out⟩, ⟨by repeat (first | (with_reducible first | exact HB.out | apply ba_ | apply bn_ | apply bd_ | refine bs_ ?_ Bl.out) | exact HB.out)⟩⟩
   ·case rel => exact ⟨_, (decide ((Be.size : Int) > 100)), (by first | rfl | (simp; done) | (simp [*]; done)), H', ⟨by first | omega | exact Nat.le_refl _⟩, ⟨by (with_reducible repeat (first | apply kn_ | apply kd_ | apply ka_)); exact B1.out⟩, ⟨by repeat (first | (with_reducible first | exact HB.out | apply ba_ | apply bn_ | apply bd_ | refine bs_ ?_ Bl.out) | exact HB.out)⟩⟩
  ·replace c8 := Bool.eq_false_iff.mpr c8
   subst c8
   rw [if_neg (show ¬ (false = true) by decide)] at H
   have H' := am_ H
   clear H
   go_wp2_with (first | ((with_reducible refine gate_load (t := 26) (x := .tmp 4) rfl ?_); refine lrg_ 26 (.tmp 4) B4 26 (by (with_reducible repeat (first | apply kn_ | apply kd_ | apply ka_)); with_reducible exact B1.out) Try.underlying26 ?_) | ((with_reducible refine gate_callee (f := 7) rfl ?_); refine gom_ (some 14) Try.func7 (r38_Few.calls k _ _ l1 _ _ l2 _ _ (Kd.C_below Ej.out HB.out) Ek.out (Kd.C_below El.out HB.out) Em.out A7.out) ?_; rintro e w' ⟨rfl, ⟨nd, rfl⟩⟩; refine ⟨_, rfl, ?_⟩))
   go_meet
   case rel => exact ⟨_, (true), (by first | rfl | (simp; done) | (simp [*]; done)), H', ⟨by first | omega | exact Nat.le_refl _⟩, ⟨by (with_reducible repeat (first | apply kn_ | apply kd_ | apply ka_)); exact B1.out⟩, ⟨by repeat (first | (with_reducible first | exact HB.out | apply ba_ | apply bn_ | apply bd_ | refine bs_ ?_ Bl.out) | exact HB.out)⟩⟩
 case rest =>
  clear Ep
  try clear c1
  try clear c2
  try clear p2
  try clear c3
  try clear c7
  try clear c8
  try clear c9
  try clear E1
  try clear E8
  try clear hcz10_0 hcz10_1 hcz10_2 hcz10_3 hcz10_4 hcz10_5 hcz10_6 hcz10_7 hcz10_8 hcz10_9 hcz10_10 hcz10_11 hcz10_12 hcz10_13
  try clear hcz11_0 hcz11_1 hcz11_2 hcz11_3 hcz11_4 hcz11_5 hcz11_6 hcz11_7 hcz11_8 hcz11_9 hcz11_10 hcz11_11 hcz11_12 hcz11_13
  try clear hfz10_0 hfz10_1 hfz10_2 hfz10_3 hfz10_4 hfz10_5 hfz10_6 hfz10_7 hfz10_8 hfz10_9 hfz10_10 hfz10_11 hfz10_12 hfz10_13
  try clear hfz11_0 hfz11_1 hfz11_2 hfz11_3 hfz11_4 hfz11_5 hfz11_6 hfz11_7 hfz11_8 hfz11_9 hfz11_10 hfz11_11 hfz11_12 hfz11_13
  obtain ⟨kq, Dm, rfl, HA, Gc, B1, HB⟩ := hcut
  cases kq with
  | zero => exact absurd HA.out (by simp [l38_RoundPlays.j0])
  | succ E5 =>
   have H := HA.out
   clear HA
   simp only [l38_RoundPlays.j0] at H
   by_cases En : Dm = true
   ·subst En
    rw [if_pos rfl] at H
    replace H := Option.bind_eq_some_iff.mp H
    obtain ⟨Et, E9, H⟩ := H
    replace H : (some Et) = some r := H
    have G5 := am_ E9
    clear E9
    obtain rfl := Option.some.inj H
    go_wp2_with (first | ((with_reducible refine gate_load (t := 26) (x := .tmp 4) rfl ?_); refine lrg_ 26 (.tmp 4) B4 26 (by (with_reducible repeat (first | apply kn_ | apply kd_ | apply ka_)); with_reducible exact B1.out) Try.underlying26 ?_) | ((with_reducible refine gate_callee (f := 8) rfl ?_); refine gom_ (some 28) Try.func8 (l38_known.calls E5  _ _ G5.out) ?_; rintro e w14 ⟨rfl, hb⟩; refine ⟨_, rfl, ?_⟩; replace B1 := bkb_ B1 hb; replace HB := bst_ HB hb; (try clear hb)))
    go_ret
    exact ⟨by first | rfl | (simp [*] <;> rfl), by repeat (first | (with_reducible first | exact HB.out | apply ba_ | apply bn_ | apply bd_ | refine bs_ ?_ Bl.out) | exact HB.out)⟩
   ·replace En := Bool.eq_false_iff.mpr En
    subst En
    rw [if_neg (show ¬ (false = true) by decide)] at H
    replace H := Option.bind_eq_some_iff.mp H
    obtain ⟨⟨Bk, D0, Bg, D1⟩, Ea, H⟩ := H
    try dsimp only at H
    have G6 := am_ Ea
    clear Ea
    replace H := Option.bind_eq_some_iff.mp H
    obtain ⟨⟨D5, Df, D2, D6⟩, Eb, H⟩ := H
    try dsimp only at H
    have G7 := am_ Eb
    clear Eb
    obtain ⟨Eu, G8, H⟩ := bes_ H
    try dsimp only at H
    by_cases Eo : Eu = true
    ·subst Eo
     rw [if_pos rfl] at H
     obtain ⟨Dk, G9, H⟩ := bes_ H
     try dsimp only at H
     obtain ⟨Dl, Ga, H⟩ := bes_ H
     try dsimp only at H
     by_cases Dz : (Dk == Dl) = true
     ·rw [if_pos Dz] at H
      have Ec : (Dk == Dl) = true := Dz
      (try (have Ed : decide (Dk = Dl) = true := by simpa using Dz))
      (try (have Ee : (Dk == Dl) = true := by simpa using Dz))
      clear Dz
      replace H := Option.bind_eq_some_iff.mp H
      obtain ⟨Ev, Ef, H⟩ := H
      replace H : (some Ev) = some r := H
      have Gb := am_ Ef
      clear Ef
      obtain rfl := Option.some.inj H
      have Fi := cells_14 B1.out
      have Fj := frozen_14 B1.out
      try go_wp2_with (first | ((with_reducible refine gate_load (t := 26) (x := .tmp 4) rfl ?_); refine lrg_ 26 (.tmp 4) B4 26 (by (with_reducible repeat (first | apply kn_ | apply kd_ | apply ka_)); with_reducible exact B1.out) Try.underlying26 ?_) | ((with_reducible refine gate_load (t := 26) (x := .tmp 4) rfl ?_); refine load_row_g (cs := #[.int .i64 Bm, .int .i64 Bn, .int .i64 Bo, .int .i64 Bp, .int .i64 Bq, .int .i64 Br, .int .i64 Bs, .int .i64 Bt, .int .i64 Bu, .int .i64 Bv, .slice Bh Bd.length Bi, .slice By Bc.length Bz, .int .i64 Bf, .string Be]) ?hw 26 (.tmp 4) ?h2 B4 ?hx 26 (fr := (0, 0)) (d := ?_) ?hg ?h3 ?h4 ?hi ?_; (case hw => first | (with_reducible rfl) | (go_simp; done) | rfl); (case h2 => rfl); (case hx => first | (with_reducible rfl) | (go_simp; done) | rfl); (case hg => exact (by (iterate 4 ((with_reducible repeat (first | apply kn_ | apply kd_ | apply ka_)); refine blk_far ?_ Bj.out _)); (with_reducible repeat (first | apply kn_ | apply kd_ | apply ka_)); exact B1.out)); (case h3 => exact Try.underlying26); (case h4 => rfl); (case hi => kernel_rfl)) | ((with_reducible refine gate_callee (f := 9) rfl ?_); refine gom_ (some 39) Try.func9 (round_Play.calls E5 Bm Bn Bo Bp Bq Br Bs Bt Bu Bv _ _ Bd _ _ Bc Bf Be _ _ l1 _ _ l2 _ _ _ _ _ (Kd.C_below Di.out HB.out) Dj.out (Kd.C_below Dx.out HB.out) Dy.out (Kd.C_below Ej.out HB.out) Ek.out (Kd.C_below El.out HB.out) Em.out G6.out) ?_; rintro e w24 ⟨v407, v410, rfl, E2, E6, hb⟩; refine ⟨_, rfl, ?_⟩; have B7 := am_ (Kd.R_lower (Kd.R_mono (ok' := fun k_ => True) E2 (fun _ hk_ => trivial)) (below_size HB.out)); have B9 := am_ (Kd.N_lower (Kd.N_mono (ok' := fun k_ => some k_ ≠ (v407 : Value).ownBlock ∧ k_ ≠ B4) E6 (fun k_ hk_ => ⟨hk_.2, (Kd.freshB (g := B4) (o := .cells #[.int .i64 Bm, .int .i64 Bn, .int .i64 Bo, .int .i64 Bp, .int .i64 Bq, .int .i64 Br, .int .i64 Bs, .int .i64 Bt, .int .i64 Bu, .int .i64 Bv, .slice Bh Bd.length Bi, .slice By Bc.length Bz, .int .i64 Bf, .string Be] 26 (0, 0)) (by (with_reducible repeat (first | apply kn_ | apply kd_ | apply ka_)); exact B1.out) k_ hk_.1)⟩)) (below_size HB.out)); replace B1 := bkb_ B1 hb; replace HB := bst_ HB hb; (try clear hb); (try clear E2); (try clear E6)) | ((with_reducible refine gate_dst (N := 9) rfl ?_); (try (refine gate_guard (by rfl) ?_; dsimp only)); refine bxe_ 9 32 #[.int .i64 0, .string (⟨#[]⟩ : ByteArray), .slice none 0 0, .slice none 0 0] ?_; intro B6 hg w25 hbox hb; replace B7 := am_ (Kd.R_below B7.out hb); replace B9 := am_ (Kd.N_below (Kd.N_elderB (by (with_reducible repeat (first | apply Kd.N_alloc | apply Kd.N_drewN | apply Kd.N_drew)); exact B9.out) B6 (Nat.le_of_eq hg.symm)) hb); have B2 := am_ (hbox); have Eg := gwk_ HB hg; have De := Eg; replace HB := bst_ HB hb; have Bj := nbk_ B1 hg; have Dn := nbs_ Bj; replace B1 := bkb_ B1 hb; clear hb hbox hg; have Fk := Dn.out; have Fl := Bj.out; have Fm := cells_4 B2.out; have Fn := frozen_4 B2.out; obtain ⟨Bw, Bx, Ew⟩ := Kd.R_slice B7.out; subst Ew; obtain ⟨D3, D4, Ex⟩ := Kd.N_slice B9.out; subst Ex; have Ey := cells_14 B1.out; have Ez := frozen_14 B1.out) | ((with_reducible refine gate_callee (f := 10) rfl ?_); refine gom_ (some 50) Try.func10 (r38_Play.calls E5 Bm Bn Bo Bp Bq Br Bs Bt Bu Bv _ _ Bd _ _ Bc Bf Be _ _ l1 _ _ l2 _ _ _ _ _ ?side1 Dj.out ?side3 Dy.out ?side5 Ek.out ?side7 Em.out G7.out) ?_; (case side1 => exact Kd.C_below Di.out (by repeat (first | (with_reducible first | exact HB.out | apply ba_ | apply bn_ | apply bd_ | refine bs_ ?_ Bl.out | refine bs_ ?_ De.out) | exact HB.out))); (case side3 => exact Kd.C_below Dx.out (by repeat (first | (with_reducible first | exact HB.out | apply ba_ | apply bn_ | apply bd_ | refine bs_ ?_ Bl.out | refine bs_ ?_ De.out) | exact HB.out))); (case side5 => exact Kd.C_below Ej.out (by repeat (first | (with_reducible first | exact HB.out | apply ba_ | apply bn_ | apply bd_ | refine bs_ ?_ Bl.out | refine bs_ ?_ De.out) | exact HB.out))); (case side7 => exact Kd.C_below El.out (by repeat (first | (with_reducible first | exact HB.out | apply ba_ | apply bn_ | apply bd_ | refine bs_ ?_ Bl.out | refine bs_ ?_ De.out) | exact HB.out))); rintro e w31 ⟨v416, v419, rfl, E2, E6, hb⟩; refine ⟨_, rfl, ?_⟩; have E3 := below_of hb (by repeat (first | (with_reducible first | exact HB.out | apply ba_ | apply bn_ | apply bd_ | refine bs_ ?_ Bl.out | refine bs_ ?_ De.out) | exact HB.out)); have Ba := am_ (Kd.R_lower (Kd.R_new' E2 (Kd.R_lt (by (with_reducible repeat (first | apply Kd.R_alloc | apply Kd.R_drewN | apply Kd.R_drew)); exact (Kd.R_mono (Kd.R_far (p := ⟨B6, 3, none⟩) (Kd.R_far (p := ⟨B6, 2, none⟩) (Kd.R_far (p := ⟨B6, 1, none⟩) (Kd.R_far (p := ⟨B6, 0, none⟩) (Kd.R_types B7.out B2.out (by decide)) (fun _ hk => hk.2) (.int .i64 Bk)) (fun _ hk => hk.2) (.string D0)) (fun _ hk => hk.2) (.slice Bw Bg.length Bx)) (fun _ hk => hk.2) (.slice D3 D1.length D4)) (fun _ h_ => h_.1))))) (below_size E3)); have Bb := am_ (Kd.N_lower (Kd.N_mono (ok' := fun k_ => some k_ ≠ (v416 : Value).ownBlock ∧ some k_ ≠ (.slice Bw Bg.length Bx : Value).ownBlock ∧ some k_ ≠ (.slice D3 D1.length D4 : Value).ownBlock ∧ k_ ≠ B4 ∧ k_ ≠ B6) (Kd.S_N (Kd.S_bound (Kd.S_apart' E6 (Kd.R_typed E2) (by decide)))) (fun k_ hk_ => ⟨hk_.1.2, (Kd.fresh' (Kd.R_lt (by (with_reducible repeat (first | apply Kd.R_alloc | apply Kd.R_drewN | apply Kd.R_drew)); exact (Kd.R_mono (Kd.R_far (p := ⟨B6, 3, none⟩) (Kd.R_far (p := ⟨B6, 2, none⟩) (Kd.R_far (p := ⟨B6, 1, none⟩) (Kd.R_far (p := ⟨B6, 0, none⟩) (Kd.R_types B7.out B2.out (by decide)) (fun _ hk => hk.2) (.int .i64 Bk)) (fun _ hk => hk.2) (.string D0)) (fun _ hk => hk.2) (.slice Bw Bg.length Bx)) (fun _ hk => hk.2) (.slice D3 D1.length D4)) (fun _ h_ => h_.1)))) k_ hk_.2.1), (Kd.fresh' (Kd.N_lt (by (with_reducible repeat (first | apply Kd.N_alloc | apply Kd.N_drewN | apply Kd.N_drew)); exact (Kd.N_mono (Kd.N_far (p := ⟨B6, 3, none⟩) (Kd.N_far (p := ⟨B6, 2, none⟩) (Kd.N_far (p := ⟨B6, 1, none⟩) (Kd.N_far (p := ⟨B6, 0, none⟩) (Kd.N_mono B9.out (fun k_ hk => (⟨hk, hk.2⟩ : _ ∧ k_ ≠ B6))) (fun _ hk => hk.2) (.int .i64 Bk)) (fun _ hk => hk.2) (.string D0)) (fun _ hk => hk.2) (.slice Bw Bg.length Bx)) (fun _ hk => hk.2) (.slice D3 D1.length D4)) (fun _ h_ => h_.1)))) k_ hk_.2.1), (Kd.freshB (g := B4) (o := .cells #[.int .i64 Bm, .int .i64 Bn, .int .i64 Bo, .int .i64 Bp, .int .i64 Bq, .int .i64 Br, .int .i64 Bs, .int .i64 Bt, .int .i64 Bu, .int .i64 Bv, .slice Bh Bd.length Bi, .slice By Bc.length Bz, .int .i64 Bf, .string Be] 26 (0, 0)) (by (iterate 4 ((with_reducible repeat (first | apply kn_ | apply kd_ | apply ka_)); refine blk_far ?_ Bj.out _)); (with_reducible repeat (first | apply kn_ | apply kd_ | apply ka_)); exact B1.out) k_ hk_.2.1), (Kd.freshB (g := B6) (o := .cells #[.int .i64 Bk, .string D0, .slice Bw Bg.length Bx, .slice D3 D1.length D4] 32 (0, 0)) (by (with_reducible repeat (first | apply kn_ | apply kd_ | apply ka_)); refine blk_put (cs := #[.int .i64 Bk, .string D0, .slice Bw Bg.length Bx, .slice none 0 0]) ?_ 3 _ rfl; (with_reducible repeat (first | apply kn_ | apply kd_ | apply ka_)); refine blk_put (cs := #[.int .i64 Bk, .string D0, .slice none 0 0, .slice none 0 0]) ?_ 2 _ rfl; (with_reducible repeat (first | apply kn_ | apply kd_ | apply ka_)); refine blk_put (cs := #[.int .i64 Bk, .string (⟨#[]⟩ : ByteArray), .slice none 0 0, .slice none 0 0]) ?_ 1 _ rfl; (with_reducible repeat (first | apply kn_ | apply kd_ | apply ka_)); refine blk_put (cs := #[.int .i64 0, .string (⟨#[]⟩ : ByteArray), .slice none 0 0, .slice none 0 0]) ?_ 0 _ rfl; (with_reducible repeat (first | apply kn_ | apply kd_ | apply ka_)); exact B2.out) k_ hk_.2.1)⟩)) (below_size E3)); replace B7 := am_ (Kd.R_elder' (by (with_reducible repeat (first | apply Kd.R_alloc | apply Kd.R_drewN | apply Kd.R_drew)); exact (Kd.R_mono (Kd.R_far (p := ⟨B6, 3, none⟩) (Kd.R_far (p := ⟨B6, 2, none⟩) (Kd.R_far (p := ⟨B6, 1, none⟩) (Kd.R_far (p := ⟨B6, 0, none⟩) (Kd.R_types B7.out B2.out (by decide)) (fun _ hk => hk.2) (.int .i64 Bk)) (fun _ hk => hk.2) (.string D0)) (fun _ hk => hk.2) (.slice Bw Bg.length Bx)) (fun _ hk => hk.2) (.slice D3 D1.length D4)) (fun _ h_ => h_.1))) (Kd.R_base E2) hb); replace B9 := am_ (Kd.N_mono (Kd.N_told (Kd.N_told (Kd.N_old (by (with_reducible repeat (first | apply Kd.N_alloc | apply Kd.N_drewN | apply Kd.N_drew)); exact (Kd.N_mono (Kd.N_far (p := ⟨B6, 3, none⟩) (Kd.N_far (p := ⟨B6, 2, none⟩) (Kd.N_far (p := ⟨B6, 1, none⟩) (Kd.N_far (p := ⟨B6, 0, none⟩) (Kd.N_mono B9.out (fun k_ hk => (⟨hk, hk.2⟩ : _ ∧ k_ ≠ B6))) (fun _ hk => hk.2) (.int .i64 Bk)) (fun _ hk => hk.2) (.string D0)) (fun _ hk => hk.2) (.slice Bw Bg.length Bx)) (fun _ hk => hk.2) (.slice D3 D1.length D4)) (fun _ h_ => h_.1))) hb) (Kd.R_base E2)) (Kd.S_base E6)) (fun _ h_ => h_.1)); replace B1 := am_ (blk_below (g := B4) (o := .cells #[.int .i64 Bm, .int .i64 Bn, .int .i64 Bo, .int .i64 Bp, .int .i64 Bq, .int .i64 Br, .int .i64 Bs, .int .i64 Bt, .int .i64 Bu, .int .i64 Bv, .slice Bh Bd.length Bi, .slice By Bc.length Bz, .int .i64 Bf, .string Be] 26 (0, 0)) (by (iterate 4 ((with_reducible repeat (first | apply kn_ | apply kd_ | apply ka_)); refine blk_far ?_ Bj.out _)); (with_reducible repeat (first | apply kn_ | apply kd_ | apply ka_)); exact B1.out) hb); replace B2 := am_ (blk_below (g := B6) (o := .cells #[.int .i64 Bk, .string D0, .slice Bw Bg.length Bx, .slice D3 D1.length D4] 32 (0, 0)) (by (with_reducible repeat (first | apply kn_ | apply kd_ | apply ka_)); refine blk_put (cs := #[.int .i64 Bk, .string D0, .slice Bw Bg.length Bx, .slice none 0 0]) ?_ 3 _ rfl; (with_reducible repeat (first | apply kn_ | apply kd_ | apply ka_)); refine blk_put (cs := #[.int .i64 Bk, .string D0, .slice none 0 0, .slice none 0 0]) ?_ 2 _ rfl; (with_reducible repeat (first | apply kn_ | apply kd_ | apply ka_)); refine blk_put (cs := #[.int .i64 Bk, .string (⟨#[]⟩ : ByteArray), .slice none 0 0, .slice none 0 0]) ?_ 1 _ rfl; (with_reducible repeat (first | apply kn_ | apply kd_ | apply ka_)); refine blk_put (cs := #[.int .i64 0, .string (⟨#[]⟩ : ByteArray), .slice none 0 0, .slice none 0 0]) ?_ 0 _ rfl; (with_reducible repeat (first | apply kn_ | apply kd_ | apply ka_)); exact B2.out) hb); replace HB := am_ (below_step E3 hb); clear E3; (try clear hb); (try clear hk); (try clear E2); (try clear E6)) | ((with_reducible refine gate_dst (N := 10) rfl ?_); (try (refine gate_guard (by rfl) ?_; dsimp only)); refine bxe_ 10 32 #[.int .i64 0, .string (⟨#[]⟩ : ByteArray), .slice none 0 0, .slice none 0 0] ?_; intro B8 hg w32 hbox hb; replace B7 := am_ (Kd.R_below B7.out hb); replace B9 := am_ (Kd.N_below (Kd.N_elderB (by (with_reducible repeat (first | apply Kd.N_alloc | apply Kd.N_drewN | apply Kd.N_drew)); exact B9.out) B8 (Nat.le_of_eq hg.symm)) hb); replace Ba := am_ (Kd.R_below Ba.out hb); replace Bb := am_ (Kd.N_below (Kd.N_elderB (by (with_reducible repeat (first | apply Kd.N_alloc | apply Kd.N_drewN | apply Kd.N_drew)); exact Bb.out) B8 (Nat.le_of_eq hg.symm)) hb); have B3 := am_ (hbox); have Eh := gwk_ HB hg; have E0 := Eh; replace HB := bst_ HB hb; have D7 := nbk_ B1 hg; have Do := nbs_ D7; replace B1 := bkb_ B1 hb; have D8 := nbk_ B2 hg; have Dp := nbs_ D8; replace B2 := bkb_ B2 hb; clear hb hbox hg; have Fo := Do.out; have Fp := D7.out; have Fq := Dp.out; have Fr := D8.out; have Fs := cells_4 B3.out; have Ft := frozen_4 B3.out; obtain ⟨D9, Da, F0⟩ := Kd.R_slice Ba.out; subst F0; obtain ⟨Dg, Dh, F1⟩ := Kd.N_slice Bb.out; subst F1) | ((with_reducible refine gate_dst (N := 11) rfl ?_); (try (refine gate_guard (by rfl) ?_; dsimp only)); refine bxe_ 11 32 #[.int .i64 0, .string (⟨#[]⟩ : ByteArray), .slice none 0 0, .slice none 0 0] ?_; intro B0 hg w38 hbox hb; have E3 := blk_of hb (g := B4) (o := .cells #[.int .i64 Bm, .int .i64 Bn, .int .i64 Bo, .int .i64 Bp, .int .i64 Bq, .int .i64 Br, .int .i64 Bs, .int .i64 Bt, .int .i64 Bu, .int .i64 Bv, .slice Bh Bd.length Bi, .slice By Bc.length Bz, .int .i64 Bf, .string Be] 26 (0, 0)) (by (iterate 4 ((with_reducible repeat (first | apply kn_ | apply kd_ | apply ka_)); refine blk_far ?_ D7.out _)); (with_reducible repeat (first | apply kn_ | apply kd_ | apply ka_)); exact B1.out); have F2 := blk_of hb (g := B6) (o := .cells #[.int .i64 Bk, .string D0, .slice Bw Bg.length Bx, .slice D3 D1.length D4] 32 (0, 0)) (by (iterate 4 ((with_reducible repeat (first | apply kn_ | apply kd_ | apply ka_)); refine blk_far ?_ D8.out _)); (with_reducible repeat (first | apply kn_ | apply kd_ | apply ka_)); exact B2.out); have F3 := blk_of hb (g := B8) (o := .cells #[.int .i64 D5, .string Df, .slice D9 D2.length Da, .slice Dg D6.length Dh] 32 (0, 0)) (by (with_reducible repeat (first | apply kn_ | apply kd_ | apply ka_)); refine blk_put (cs := #[.int .i64 D5, .string Df, .slice D9 D2.length Da, .slice none 0 0]) ?_ 3 _ rfl; (with_reducible repeat (first | apply kn_ | apply kd_ | apply ka_)); refine blk_put (cs := #[.int .i64 D5, .string Df, .slice none 0 0, .slice none 0 0]) ?_ 2 _ rfl; (with_reducible repeat (first | apply kn_ | apply kd_ | apply ka_)); refine blk_put (cs := #[.int .i64 D5, .string (⟨#[]⟩ : ByteArray), .slice none 0 0, .slice none 0 0]) ?_ 1 _ rfl; (with_reducible repeat (first | apply kn_ | apply kd_ | apply ka_)); refine blk_put (cs := #[.int .i64 0, .string (⟨#[]⟩ : ByteArray), .slice none 0 0, .slice none 0 0]) ?_ 0 _ rfl; (with_reducible repeat (first | apply kn_ | apply kd_ | apply ka_)); exact B3.out); have F4 := below_of hb (by repeat (first | (with_reducible first | exact HB.out | apply ba_ | apply bn_ | apply bd_ | refine bs_ ?_ Bl.out | refine bs_ ?_ De.out | refine bs_ ?_ E0.out) | exact HB.out)); replace B7 := am_ (Kd.R_below (by (with_reducible repeat (first | apply Kd.R_alloc | apply Kd.R_drewN | apply Kd.R_drew)); exact (Kd.R_mono (Kd.R_far (p := ⟨B8, 3, none⟩) (Kd.R_far (p := ⟨B8, 2, none⟩) (Kd.R_far (p := ⟨B8, 1, none⟩) (Kd.R_far (p := ⟨B8, 0, none⟩) (Kd.R_types B7.out B3.out (by decide)) (fun _ hk => hk.2) (.int .i64 D5)) (fun _ hk => hk.2) (.string Df)) (fun _ hk => hk.2) (.slice D9 D2.length Da)) (fun _ hk => hk.2) (.slice Dg D6.length Dh)) (fun _ h_ => h_.1))) hb); replace B9 := am_ (Kd.N_below (Kd.N_elderB (by (with_reducible repeat (first | apply Kd.N_alloc | apply Kd.N_drewN | apply Kd.N_drew)); exact (Kd.N_mono (Kd.N_far (p := ⟨B8, 3, none⟩) (Kd.N_far (p := ⟨B8, 2, none⟩) (Kd.N_far (p := ⟨B8, 1, none⟩) (Kd.N_far (p := ⟨B8, 0, none⟩) (Kd.N_mono B9.out (fun k_ hk => (⟨hk, hk.2⟩ : _ ∧ k_ ≠ B8))) (fun _ hk => hk.2) (.int .i64 D5)) (fun _ hk => hk.2) (.string Df)) (fun _ hk => hk.2) (.slice D9 D2.length Da)) (fun _ hk => hk.2) (.slice Dg D6.length Dh)) (fun _ h_ => h_.1))) B0 (Nat.le_of_eq hg.symm)) hb); replace Ba := am_ (Kd.R_below (by (with_reducible repeat (first | apply Kd.R_alloc | apply Kd.R_drewN | apply Kd.R_drew)); exact (Kd.R_mono (Kd.R_far (p := ⟨B8, 3, none⟩) (Kd.R_far (p := ⟨B8, 2, none⟩) (Kd.R_far (p := ⟨B8, 1, none⟩) (Kd.R_far (p := ⟨B8, 0, none⟩) (Kd.R_types Ba.out B3.out (by decide)) (fun _ hk => hk.2) (.int .i64 D5)) (fun _ hk => hk.2) (.string Df)) (fun _ hk => hk.2) (.slice D9 D2.length Da)) (fun _ hk => hk.2) (.slice Dg D6.length Dh)) (fun _ h_ => h_.1))) hb); replace Bb := am_ (Kd.N_below (Kd.N_elderB (by (with_reducible repeat (first | apply Kd.N_alloc | apply Kd.N_drewN | apply Kd.N_drew)); exact (Kd.N_mono (Kd.N_far (p := ⟨B8, 3, none⟩) (Kd.N_far (p := ⟨B8, 2, none⟩) (Kd.N_far (p := ⟨B8, 1, none⟩) (Kd.N_far (p := ⟨B8, 0, none⟩) (Kd.N_mono Bb.out (fun k_ hk => (⟨hk, hk.2⟩ : _ ∧ k_ ≠ B8))) (fun _ hk => hk.2) (.int .i64 D5)) (fun _ hk => hk.2) (.string Df)) (fun _ hk => hk.2) (.slice D9 D2.length Da)) (fun _ hk => hk.2) (.slice Dg D6.length Dh)) (fun _ h_ => h_.1))) B0 (Nat.le_of_eq hg.symm)) hb); have B5 := am_ (hbox); have Ei := am_ ((by rw [hg]; exact (below_size F4) : w.heap.size ≤ B0)); have E4 := Ei; replace HB := am_ (below_step F4 hb); have Db := am_ ((by rw [hg]; exact Nat.ne_of_lt (blk_lt E3) : B4 ≠ B0)); have Dq := nbs_ Db; replace B1 := am_ (blk_below E3 hb); have Dc := am_ ((by rw [hg]; exact Nat.ne_of_lt (blk_lt F2) : B6 ≠ B0)); have Dr := nbs_ Dc; replace B2 := am_ (blk_below F2 hb); have Dd := am_ ((by rw [hg]; exact Nat.ne_of_lt (blk_lt F3) : B8 ≠ B0)); have Ds := nbs_ Dd; replace B3 := am_ (blk_below F3 hb); clear E3 F2 F3 F4; clear hb hbox hg; have Fu := Dq.out; have Fv := Db.out; have Fw := Dr.out; have Fx := Dc.out; have Fy := Ds.out; have Fz := Dd.out; have G0 := cells_4 B5.out; have G1 := frozen_4 B5.out))
      have F5 : Aside0 (Kd.R Kd.string 9 ((((w38.setCell ⟨B0, 0, none⟩ (.int .i64 a3)).setCell ⟨B0, 1, none⟩ (.string (⟨#[]⟩ : ByteArray))).setCell ⟨B0, 2, none⟩ (.slice none 0 0)).setCell ⟨B0, 3, none⟩ (.slice none 0 0)) w.heap.size (fun k_ => some k_ ≠ (.slice D9 D2.length Da : Value).ownBlock) (.slice Bw Bg.length Bx) Bg) := ⟨by (with_reducible repeat (first | apply Kd.R_alloc | apply Kd.R_drewN | apply Kd.R_drew)); exact Kd.R_mono (Kd.R_far (p := ⟨B0, 3, none⟩) (Kd.R_far (p := ⟨B0, 2, none⟩) (Kd.R_far (p := ⟨B0, 1, none⟩) (Kd.R_far (p := ⟨B0, 0, none⟩) (Kd.R_types B7.out B5.out (by decide)) (fun _ hk => hk.2) (.int .i64 a3)) (fun _ hk => hk.2) (.string (⟨#[]⟩ : ByteArray))) (fun _ hk => hk.2) (.slice none 0 0)) (fun _ hk => hk.2) (.slice none 0 0)) (fun _ hk => hk.1.2)⟩
      have F6 : Aside0 (Kd.N (Kd.slice 45 k45) 42 ((((w38.setCell ⟨B0, 0, none⟩ (.int .i64 a3)).setCell ⟨B0, 1, none⟩ (.string (⟨#[]⟩ : ByteArray))).setCell ⟨B0, 2, none⟩ (.slice none 0 0)).setCell ⟨B0, 3, none⟩ (.slice none 0 0)) w.heap.size (fun k_ => some k_ ≠ (.slice Bw Bg.length Bx : Value).ownBlock ∧ some k_ ≠ (.slice D9 D2.length Da : Value).ownBlock ∧ some k_ ≠ (.slice Dg D6.length Dh : Value).ownBlock ∧ k_ ≠ B4 ∧ k_ ≠ B6 ∧ k_ ≠ B8 ∧ k_ ≠ B0) (.slice D3 D1.length D4) D1) := ⟨by (with_reducible repeat (first | apply Kd.N_alloc | apply Kd.N_drewN | apply Kd.N_drew)); exact Kd.N_mono (Kd.N_far (p := ⟨B0, 3, none⟩) (Kd.N_far (p := ⟨B0, 2, none⟩) (Kd.N_far (p := ⟨B0, 1, none⟩) (Kd.N_far (p := ⟨B0, 0, none⟩) (Kd.N_mono B9.out (fun k_ hk => (⟨hk, hk.2⟩ : _ ∧ k_ ≠ B0))) (fun _ hk => hk.2) (.int .i64 a3)) (fun _ hk => hk.2) (.string (⟨#[]⟩ : ByteArray))) (fun _ hk => hk.2) (.slice none 0 0)) (fun _ hk => hk.2) (.slice none 0 0)) (fun _ hk => ⟨hk.1.1.1.1.1.1.1, ⟨hk.1.1.1.1.2, ⟨hk.1.1.1.2, ⟨hk.1.1.1.1.1.1.2, ⟨hk.1.1.1.1.1.2, ⟨hk.1.1.2, hk.1.2⟩⟩⟩⟩⟩⟩)⟩
      have F7 : Aside0 (Kd.R Kd.string 9 ((((w38.setCell ⟨B0, 0, none⟩ (.int .i64 a3)).setCell ⟨B0, 1, none⟩ (.string (⟨#[]⟩ : ByteArray))).setCell ⟨B0, 2, none⟩ (.slice none 0 0)).setCell ⟨B0, 3, none⟩ (.slice none 0 0)) w.heap.size (fun k_ => some k_ ≠ (.slice Bw Bg.length Bx : Value).ownBlock) (.slice D9 D2.length Da) D2) := ⟨by (with_reducible repeat (first | apply Kd.R_alloc | apply Kd.R_drewN | apply Kd.R_drew)); exact Kd.R_mono (Kd.R_far (p := ⟨B0, 3, none⟩) (Kd.R_far (p := ⟨B0, 2, none⟩) (Kd.R_far (p := ⟨B0, 1, none⟩) (Kd.R_far (p := ⟨B0, 0, none⟩) (Kd.R_types Ba.out B5.out (by decide)) (fun _ hk => hk.2) (.int .i64 a3)) (fun _ hk => hk.2) (.string (⟨#[]⟩ : ByteArray))) (fun _ hk => hk.2) (.slice none 0 0)) (fun _ hk => hk.2) (.slice none 0 0)) (fun _ hk => hk.1.2)⟩
      have F8 : Aside0 (Kd.N (Kd.slice 45 k45) 42 ((((w38.setCell ⟨B0, 0, none⟩ (.int .i64 a3)).setCell ⟨B0, 1, none⟩ (.string (⟨#[]⟩ : ByteArray))).setCell ⟨B0, 2, none⟩ (.slice none 0 0)).setCell ⟨B0, 3, none⟩ (.slice none 0 0)) w.heap.size (fun k_ => some k_ ≠ (.slice Bw Bg.length Bx : Value).ownBlock ∧ some k_ ≠ (.slice D3 D1.length D4 : Value).ownBlock ∧ some k_ ≠ (.slice D9 D2.length Da : Value).ownBlock ∧ k_ ≠ B4 ∧ k_ ≠ B6 ∧ k_ ≠ B8 ∧ k_ ≠ B0) (.slice Dg D6.length Dh) D6) := ⟨by (with_reducible repeat (first | apply Kd.N_alloc | apply Kd.N_drewN | apply Kd.N_drew)); exact Kd.N_mono (Kd.N_far (p := ⟨B0, 3, none⟩) (Kd.N_far (p := ⟨B0, 2, none⟩) (Kd.N_far (p := ⟨B0, 1, none⟩) (Kd.N_far (p := ⟨B0, 0, none⟩) (Kd.N_mono Bb.out (fun k_ hk => (⟨hk, hk.2⟩ : _ ∧ k_ ≠ B0))) (fun _ hk => hk.2) (.int .i64 a3)) (fun _ hk => hk.2) (.string (⟨#[]⟩ : ByteArray))) (fun _ hk => hk.2) (.slice none 0 0)) (fun _ hk => hk.2) (.slice none 0 0)) (fun _ hk => ⟨hk.1.1.1.2.1, ⟨hk.1.1.1.2.2.1, ⟨hk.1.1.1.1, ⟨hk.1.1.1.2.2.2.1, ⟨hk.1.1.1.2.2.2.2, ⟨hk.1.1.2, hk.1.2⟩⟩⟩⟩⟩⟩)⟩
      have F9 : Aside0 (((((w38.setCell ⟨B0, 0, none⟩ (.int .i64 a3)).setCell ⟨B0, 1, none⟩ (.string (⟨#[]⟩ : ByteArray))).setCell ⟨B0, 2, none⟩ (.slice none 0 0)).setCell ⟨B0, 3, none⟩ (.slice none 0 0)).heap[B4]? = some (.cells #[.int .i64 Bm, .int .i64 Bn, .int .i64 Bo, .int .i64 Bp, .int .i64 Bq, .int .i64 Br, .int .i64 Bs, .int .i64 Bt, .int .i64 Bu, .int .i64 Bv, .slice Bh Bd.length Bi, .slice By Bc.length Bz, .int .i64 Bf, .string Be] 26 (0, 0))) := ⟨by (iterate 4 ((with_reducible repeat (first | apply kn_ | apply kd_ | apply ka_)); refine blk_far ?_ Db.out _)); (with_reducible repeat (first | apply kn_ | apply kd_ | apply ka_)); exact B1.out⟩
      have Fa : Aside0 (((((w38.setCell ⟨B0, 0, none⟩ (.int .i64 a3)).setCell ⟨B0, 1, none⟩ (.string (⟨#[]⟩ : ByteArray))).setCell ⟨B0, 2, none⟩ (.slice none 0 0)).setCell ⟨B0, 3, none⟩ (.slice none 0 0)).heap[B6]? = some (.cells #[.int .i64 Bk, .string D0, .slice Bw Bg.length Bx, .slice D3 D1.length D4] 32 (0, 0))) := ⟨by (iterate 4 ((with_reducible repeat (first | apply kn_ | apply kd_ | apply ka_)); refine blk_far ?_ Dc.out _)); (with_reducible repeat (first | apply kn_ | apply kd_ | apply ka_)); exact B2.out⟩
      have Fb : Aside0 (((((w38.setCell ⟨B0, 0, none⟩ (.int .i64 a3)).setCell ⟨B0, 1, none⟩ (.string (⟨#[]⟩ : ByteArray))).setCell ⟨B0, 2, none⟩ (.slice none 0 0)).setCell ⟨B0, 3, none⟩ (.slice none 0 0)).heap[B8]? = some (.cells #[.int .i64 D5, .string Df, .slice D9 D2.length Da, .slice Dg D6.length Dh] 32 (0, 0))) := ⟨by (iterate 4 ((with_reducible repeat (first | apply kn_ | apply kd_ | apply ka_)); refine blk_far ?_ Dd.out _)); (with_reducible repeat (first | apply kn_ | apply kd_ | apply ka_)); exact B3.out⟩
      have Fc : Aside0 (((((w38.setCell ⟨B0, 0, none⟩ (.int .i64 a3)).setCell ⟨B0, 1, none⟩ (.string (⟨#[]⟩ : ByteArray))).setCell ⟨B0, 2, none⟩ (.slice none 0 0)).setCell ⟨B0, 3, none⟩ (.slice none 0 0)).heap[B0]? = some (.cells #[.int .i64 a3, .string (⟨#[]⟩ : ByteArray), .slice none 0 0, .slice none 0 0] 32 (0, 0))) := ⟨by (with_reducible repeat (first | apply kn_ | apply kd_ | apply ka_)); refine blk_put (cs := #[.int .i64 a3, .string (⟨#[]⟩ : ByteArray), .slice none 0 0, .slice none 0 0]) ?_ 3 _ rfl; (with_reducible repeat (first | apply kn_ | apply kd_ | apply ka_)); refine blk_put (cs := #[.int .i64 a3, .string (⟨#[]⟩ : ByteArray), .slice none 0 0, .slice none 0 0]) ?_ 2 _ rfl; (with_reducible repeat (first | apply kn_ | apply kd_ | apply ka_)); refine blk_put (cs := #[.int .i64 a3, .string (⟨#[]⟩ : ByteArray), .slice none 0 0, .slice none 0 0]) ?_ 1 _ rfl; (with_reducible repeat (first | apply kn_ | apply kd_ | apply ka_)); refine blk_put (cs := #[.int .i64 0, .string (⟨#[]⟩ : ByteArray), .slice none 0 0, .slice none 0 0]) ?_ 0 _ rfl; (with_reducible repeat (first | apply kn_ | apply kd_ | apply ka_)); exact B5.out⟩
      have Fd : Aside0 (Below w.heap.size w ((((w38.setCell ⟨B0, 0, none⟩ (.int .i64 a3)).setCell ⟨B0, 1, none⟩ (.string (⟨#[]⟩ : ByteArray))).setCell ⟨B0, 2, none⟩ (.slice none 0 0)).setCell ⟨B0, 3, none⟩ (.slice none 0 0))) := ⟨by repeat (first | (with_reducible first | exact HB.out | apply ba_ | apply bn_ | apply bd_ | refine bs_ ?_ Bl.out | refine bs_ ?_ De.out | refine bs_ ?_ E0.out | refine bs_ ?_ E4.out) | exact HB.out)⟩
      (try clear B7)
      (try clear B9)
      (try clear Ba)
      (try clear Bb)
      (try clear B1)
      (try clear B2)
      (try clear B3)
      (try clear B5)
      (try clear HB)
      generalize ((((w38.setCell ⟨B0, 0, none⟩ (.int .i64 a3)).setCell ⟨B0, 1, none⟩ (.string (⟨#[]⟩ : ByteArray))).setCell ⟨B0, 2, none⟩ (.slice none 0 0)).setCell ⟨B0, 3, none⟩ (.slice none 0 0)) = w43 at F5 F6 F7 F8 F9 Fa Fb Fc Fd ⊢
      have B7 := F5
      have B9 := F6
      have Ba := F7
      have Bb := F8
      have B1 := F9
      have B2 := Fa
      have B3 := Fb
      have B5 := Fc
      have HB := Fd
      clear F5 F6 F7 F8 F9 Fa Fb Fc Fd
      replace B7 := am_ (Kd.R_drew B7.out)
      replace B9 := am_ (Kd.N_drew B9.out)
      replace Ba := am_ (Kd.R_drew Ba.out)
      replace Bb := am_ (Kd.N_drew Bb.out)
      replace B1 := am_ (blk_drew B1.out)
      replace B2 := am_ (blk_drew B2.out)
      replace B3 := am_ (blk_drew B3.out)
      replace B5 := am_ (blk_drew B5.out)
      replace HB := am_ (below_drew1 HB.out)
      refine start_ (n := 20) (S := fun w' => ce_ w' B6 0 (.int .i64 Bk) ∧ ce_ w' B6 1 (.string D0) ∧ ce_ w' B6 2 (.slice Bw Bg.length Bx) ∧ ce_ w' B6 3 (.slice D3 D1.length D4) ∧ ce_ w' B8 0 (.int .i64 D5) ∧ ce_ w' B8 1 (.string Df) ∧ ce_ w' B8 2 (.slice D9 D2.length Da) ∧ ce_ w' B8 3 (.slice Dg D6.length Dh) ∧ ce_ w' B4 0 (.int .i64 Bm) ∧ ce_ w' B4 1 (.int .i64 Bn) ∧ ce_ w' B4 2 (.int .i64 Bo) ∧ ce_ w' B4 3 (.int .i64 Bp) ∧ ce_ w' B4 4 (.int .i64 Bq) ∧ ce_ w' B4 5 (.int .i64 Br) ∧ ce_ w' B4 6 (.int .i64 Bs) ∧ ce_ w' B4 7 (.int .i64 Bt) ∧ ce_ w' B4 8 (.int .i64 Bu) ∧ ce_ w' B4 9 (.int .i64 Bv) ∧ ce_ w' B4 10 (.slice Bh Bd.length Bi) ∧ ce_ w' B4 11 (.slice By Bc.length Bz) ∧ ce_ w' B4 12 (.int .i64 Bf) ∧ ce_ w' B4 13 (.string Be) ∧ ce_ w' B0 0 (.int .i64 a3) ∧ ce_ w' B0 1 (.string (⟨#[]⟩ : ByteArray)) ∧ ce_ w' B0 2 (.slice none 0 0) ∧ ce_ w' B0 3 (.slice none 0 0)) (ds := []) #[false, false, false, false, false, false, false, false, false, false, false, false, false, false, false, false, false, false, false, false] (by kernel_rfl) rfl rfl ⟨(blk_cell B2.out 0).trans rfl, (blk_cell B2.out 1).trans rfl, (blk_cell B2.out 2).trans rfl, (blk_cell B2.out 3).trans rfl, (blk_cell B3.out 0).trans rfl, (blk_cell B3.out 1).trans rfl, (blk_cell B3.out 2).trans rfl, (blk_cell B3.out 3).trans rfl, (blk_cell B1.out 0).trans rfl, (blk_cell B1.out 1).trans rfl, (blk_cell B1.out 2).trans rfl, (blk_cell B1.out 3).trans rfl, (blk_cell B1.out 4).trans rfl, (blk_cell B1.out 5).trans rfl, (blk_cell B1.out 6).trans rfl, (blk_cell B1.out 7).trans rfl, (blk_cell B1.out 8).trans rfl, (blk_cell B1.out 9).trans rfl, (blk_cell B1.out 10).trans rfl, (blk_cell B1.out 11).trans rfl, (blk_cell B1.out 12).trans rfl, (blk_cell B1.out 13).trans rfl, (blk_cell B5.out 0).trans rfl, (blk_cell B5.out 1).trans rfl, (blk_cell B5.out 2).trans rfl, (blk_cell B5.out 3).trans rfl⟩ (fun hHeld => ?_); refine with_tabW l38_RoundPlays.tab6 l38_RoundPlays.bits6 (fun HT_ HW_ => ?_)
      generalize w43.drew = w44 at B7 B9 Ba Bb B1 B2 B3 B5 HB hHeld ⊢
      refine tak_ 0 (some 53) rfl rfl (take_ofW HT_.out HW_.out (by kernel_rfl)) hHeld ?_ (by rintro w' ⟨s0, s1, s2, s3, s4, s5, s6, s7, s8, s9, s10, s11, s12, s13, s14, s15, s16, s17, s18, s19, s20, s21, s22, s23, s24, s25⟩; (first | (refine load_cells_14 (ty := 26) (x := .tmp 4) (g := B4) ?hlo_ ?hx_ Try.underlying26 ?hd_ ?hi_ s8 s9 s10 s11 s12 s13 s14 s15 s16 s17 s18 s19 s20 s21; (case hlo_ => rfl); (case hx_ => rfl); (case hd_ => rfl); (case hi_ => kernel_rfl)) | (go_simp; with_reducible rfl)))
      refine tak_ 1 (some 54) rfl rfl (take_ofW HT_.out HW_.out (by kernel_rfl)) hHeld ?_ (by rintro w' ⟨s0, s1, s2, s3, s4, s5, s6, s7, s8, s9, s10, s11, s12, s13, s14, s15, s16, s17, s18, s19, s20, s21, s22, s23, s24, s25⟩; (first | (refine load_cells_14 (ty := 26) (x := .tmp 4) (g := B4) ?hlo_ ?hx_ Try.underlying26 ?hd_ ?hi_ s8 s9 s10 s11 s12 s13 s14 s15 s16 s17 s18 s19 s20 s21; (case hlo_ => rfl); (case hx_ => rfl); (case hd_ => rfl); (case hi_ => kernel_rfl)) | (go_simp; with_reducible rfl)))
      refine oon_ 2 (some 55) rfl rfl (one_of HT_.out (by kernel_rfl)) (fun K hK => ?_)
      refine gos_ Try.func11 (r38_Same.calls E5 Bk D0 _ _ Bg _ _ D1 D5 Df _ _ D2 _ _ D6 _ _ (Kd.R_reads' B7.out).2.2 (Kd.R_reads' B7.out).2.1 (Kd.N_reads' B9.out).2.2 (Kd.N_reads' B9.out).2.1 (Kd.R_reads' Ba.out).2.2 (Kd.R_reads' Ba.out).2.1 (Kd.N_reads' Bb.out).2.2 (Kd.N_reads' Bb.out).2.1 G8.out) ?_
      rintro e w45 ⟨rfl, hb⟩
      refine ⟨_, rfl, ?_⟩
      replace B7 := am_ (Kd.R_below B7.out hb)
      replace B9 := am_ (Kd.N_below B9.out hb)
      replace Ba := am_ (Kd.R_below Ba.out hb)
      replace Bb := am_ (Kd.N_below Bb.out hb)
      replace B1 := bkb_ B1 hb
      replace B2 := bkb_ B2 hb
      replace B3 := bkb_ B3 hb
      replace B5 := bkb_ B5 hb
      replace HB := bst_ HB hb
      (try clear hb)
      (try clear hb2)
      (try clear hk)
      (try clear hi)
      refine hK.out _ _ ⟨(blk_cell B2.out 0).trans rfl, (blk_cell B2.out 1).trans rfl, (blk_cell B2.out 2).trans rfl, (blk_cell B2.out 3).trans rfl, (blk_cell B3.out 0).trans rfl, (blk_cell B3.out 1).trans rfl, (blk_cell B3.out 2).trans rfl, (blk_cell B3.out 3).trans rfl, (and_14 B1.out ⟨(blk_cell B5.out 0).trans rfl, (blk_cell B5.out 1).trans rfl, (blk_cell B5.out 2).trans rfl, (blk_cell B5.out 3).trans rfl⟩)⟩ (fun hHeld => ?_)
      clear hK K
      refine nor_ 55 ?_
      refine pur_ 3 (some 56) rfl rfl (any_of HT_.out (by kernel_rfl)) ?_
      refine pur_ 4 (some 57) rfl rfl (any_of HT_.out (by kernel_rfl)) ?_
      refine pur_ 9 (some 62) rfl rfl (any_of HT_.out (by kernel_rfl)) ?_
      refine tak_ 5 (some 58) rfl rfl (take_ofW HT_.out HW_.out (by kernel_rfl)) hHeld ?_ (by rintro w' ⟨s0, s1, s2, s3, s4, s5, s6, s7, s8, s9, s10, s11, s12, s13, s14, s15, s16, s17, s18, s19, s20, s21, s22, s23, s24, s25⟩; (first | (refine load_cells_14 (ty := 26) (x := .tmp 4) (g := B4) ?hlo_ ?hx_ Try.underlying26 ?hd_ ?hi_ s8 s9 s10 s11 s12 s13 s14 s15 s16 s17 s18 s19 s20 s21; (case hlo_ => rfl); (case hx_ => rfl); (case hd_ => rfl); (case hi_ => kernel_rfl)) | (go_simp; with_reducible rfl)))
      refine tak_ 6 (some 59) rfl rfl (take_ofW HT_.out HW_.out (by kernel_rfl)) hHeld ?_ (by rintro w' ⟨s0, s1, s2, s3, s4, s5, s6, s7, s8, s9, s10, s11, s12, s13, s14, s15, s16, s17, s18, s19, s20, s21, s22, s23, s24, s25⟩; (first | (refine load_cells_14 (ty := 26) (x := .tmp 4) (g := B4) ?hlo_ ?hx_ Try.underlying26 ?hd_ ?hi_ s8 s9 s10 s11 s12 s13 s14 s15 s16 s17 s18 s19 s20 s21; (case hlo_ => rfl); (case hx_ => rfl); (case hd_ => rfl); (case hi_ => kernel_rfl)) | (go_simp; with_reducible rfl)))
      refine tak_ 7 (some 60) rfl rfl (take_ofW HT_.out HW_.out (by kernel_rfl)) hHeld ?_ (by rintro w' ⟨s0, s1, s2, s3, s4, s5, s6, s7, s8, s9, s10, s11, s12, s13, s14, s15, s16, s17, s18, s19, s20, s21, s22, s23, s24, s25⟩; (first | (refine load_cells_14 (ty := 26) (x := .tmp 4) (g := B4) ?hlo_ ?hx_ Try.underlying26 ?hd_ ?hi_ s8 s9 s10 s11 s12 s13 s14 s15 s16 s17 s18 s19 s20 s21; (case hlo_ => rfl); (case hx_ => rfl); (case hd_ => rfl); (case hi_ => kernel_rfl)) | (go_simp; with_reducible rfl)))
      refine tak_ 10 (some 63) rfl rfl (take_ofW HT_.out HW_.out (by kernel_rfl)) hHeld ?_ (by rintro w' ⟨s0, s1, s2, s3, s4, s5, s6, s7, s8, s9, s10, s11, s12, s13, s14, s15, s16, s17, s18, s19, s20, s21, s22, s23, s24, s25⟩; (first | (refine load_cells_14 (ty := 26) (x := .tmp 4) (g := B4) ?hlo_ ?hx_ Try.underlying26 ?hd_ ?hi_ s8 s9 s10 s11 s12 s13 s14 s15 s16 s17 s18 s19 s20 s21; (case hlo_ => rfl); (case hx_ => rfl); (case hd_ => rfl); (case hi_ => kernel_rfl)) | (go_simp; with_reducible rfl)))
      refine tak_ 11 (some 64) rfl rfl (take_ofW HT_.out HW_.out (by kernel_rfl)) hHeld ?_ (by rintro w' ⟨s0, s1, s2, s3, s4, s5, s6, s7, s8, s9, s10, s11, s12, s13, s14, s15, s16, s17, s18, s19, s20, s21, s22, s23, s24, s25⟩; (first | (refine load_cells_14 (ty := 26) (x := .tmp 4) (g := B4) ?hlo_ ?hx_ Try.underlying26 ?hd_ ?hi_ s8 s9 s10 s11 s12 s13 s14 s15 s16 s17 s18 s19 s20 s21; (case hlo_ => rfl); (case hx_ => rfl); (case hd_ => rfl); (case hi_ => kernel_rfl)) | (go_simp; with_reducible rfl)))
      refine tak_ 12 (some 65) rfl rfl (take_ofW HT_.out HW_.out (by kernel_rfl)) hHeld ?_ (by rintro w' ⟨s0, s1, s2, s3, s4, s5, s6, s7, s8, s9, s10, s11, s12, s13, s14, s15, s16, s17, s18, s19, s20, s21, s22, s23, s24, s25⟩; (first | (refine load_cells_14 (ty := 26) (x := .tmp 4) (g := B4) ?hlo_ ?hx_ Try.underlying26 ?hd_ ?hi_ s8 s9 s10 s11 s12 s13 s14 s15 s16 s17 s18 s19 s20 s21; (case hlo_ => rfl); (case hx_ => rfl); (case hd_ => rfl); (case hi_ => kernel_rfl)) | (go_simp; with_reducible rfl)))
      refine oon_ 8 (some 61) rfl rfl (one_of HT_.out (by kernel_rfl)) (fun K hK => ?_)
      refine goes_ Try.func12 (by kernel_rfl) rfl #[.agg #[.int .i64 Bm, .int .i64 Bn, .int .i64 Bo, .int .i64 Bp, .int .i64 Bq, .int .i64 Br, .int .i64 Bs, .int .i64 Bt, .int .i64 Bu, .int .i64 Bv, .slice Bh Bd.length Bi], .agg #[.int .i64 Bk, .string D0, .slice Bw Bg.length Bx, .slice D3 D1.length D4], .agg #[.int .i64 a3, .string (⟨#[]⟩ : ByteArray), .slice none 0 0, .slice none 0 0]] (by rfl) rfl rfl (by (try simp only [ms_]); first | done | rfl) ?_
      refine (round_Follows.calls E5 Bm Bn Bo Bp Bq Br Bs Bt Bu Bv _ _ Bd Bk D0 _ _ Bg _ _ D1 a3 (⟨#[]⟩ : ByteArray) _ _ ([] : List ByteArray) _ _ ([] : List (List (S45))) _ _ (Kd.C_below Di.out HB.out) Dj.out (Kd.R_reads' B7.out).2.2 (Kd.R_reads' B7.out).2.1 (Kd.N_reads' B9.out).2.2 (Kd.N_reads' B9.out).2.1 ?side7 ?side8 ?side9 ?side10 G9.out).mono ?_
      (case side7 => exact Kd.C_nil _ _)
      (case side8 => exact Nat.le_refl _)
      (case side9 => exact Kd.C_nil _ _)
      (case side10 => exact Nat.le_refl _)
      rintro e w46 ⟨rfl, hb⟩
      refine ⟨_, rfl, ?_⟩
      replace B7 := am_ (Kd.R_below B7.out hb)
      replace B9 := am_ (Kd.N_below B9.out hb)
      replace Ba := am_ (Kd.R_below Ba.out hb)
      replace Bb := am_ (Kd.N_below Bb.out hb)
      replace B1 := bkb_ B1 hb
      replace B2 := bkb_ B2 hb
      replace B3 := bkb_ B3 hb
      replace B5 := bkb_ B5 hb
      replace HB := bst_ HB hb
      (try clear hb)
      (try clear hb2)
      (try clear hk)
      (try clear hi)
      refine hK.out _ _ ⟨(blk_cell B2.out 0).trans rfl, (blk_cell B2.out 1).trans rfl, (blk_cell B2.out 2).trans rfl, (blk_cell B2.out 3).trans rfl, (blk_cell B3.out 0).trans rfl, (blk_cell B3.out 1).trans rfl, (blk_cell B3.out 2).trans rfl, (blk_cell B3.out 3).trans rfl, (and_14 B1.out ⟨(blk_cell B5.out 0).trans rfl, (blk_cell B5.out 1).trans rfl, (blk_cell B5.out 2).trans rfl, (blk_cell B5.out 3).trans rfl⟩)⟩ (fun hHeld => ?_)
      clear hK K
      refine nor_ 61 ?_
      refine oon_ 13 (some 66) rfl rfl (one_of HT_.out (by kernel_rfl)) (fun K hK => ?_)
      refine goes_ Try.func13 (by kernel_rfl) rfl #[.agg #[.int .i64 Bm, .int .i64 Bn, .int .i64 Bo, .int .i64 Bp, .int .i64 Bq, .int .i64 Br, .int .i64 Bs, .int .i64 Bt, .int .i64 Bu, .int .i64 Bv, .slice Bh Bd.length Bi], .agg #[.int .i64 D5, .string Df, .slice D9 D2.length Da, .slice Dg D6.length Dh], .agg #[.int .i64 a3, .string (⟨#[]⟩ : ByteArray), .slice none 0 0, .slice none 0 0]] (by rfl) rfl rfl (by (try simp only [ms_]); first | done | rfl) ?_
      refine (r38_Follows.calls E5 Bm Bn Bo Bp Bq Br Bs Bt Bu Bv _ _ Bd D5 Df _ _ D2 _ _ D6 a3 (⟨#[]⟩ : ByteArray) _ _ ([] : List ByteArray) _ _ ([] : List (List (S45))) _ _ (Kd.C_below Di.out HB.out) Dj.out (Kd.R_reads' Ba.out).2.2 (Kd.R_reads' Ba.out).2.1 (Kd.N_reads' Bb.out).2.2 (Kd.N_reads' Bb.out).2.1 ?side7 ?side8 ?side9 ?side10 Ga.out).mono ?_
      (case side7 => exact Kd.C_nil _ _)
      (case side8 => exact Nat.le_refl _)
      (case side9 => exact Kd.C_nil _ _)
      (case side10 => exact Nat.le_refl _)
      rintro e w47 ⟨rfl, hb⟩
      refine ⟨_, rfl, ?_⟩
      replace B7 := am_ (Kd.R_below B7.out hb)
      replace B9 := am_ (Kd.N_below B9.out hb)
      replace Ba := am_ (Kd.R_below Ba.out hb)
      replace Bb := am_ (Kd.N_below Bb.out hb)
      replace B1 := bkb_ B1 hb
      replace B2 := bkb_ B2 hb
      replace B3 := bkb_ B3 hb
      replace B5 := bkb_ B5 hb
      replace HB := bst_ HB hb
      (try clear hb)
      (try clear hb2)
      (try clear hk)
      (try clear hi)
      refine hK.out _ _ ⟨(blk_cell B2.out 0).trans rfl, (blk_cell B2.out 1).trans rfl, (blk_cell B2.out 2).trans rfl, (blk_cell B2.out 3).trans rfl, (blk_cell B3.out 0).trans rfl, (blk_cell B3.out 1).trans rfl, (blk_cell B3.out 2).trans rfl, (blk_cell B3.out 3).trans rfl, (and_14 B1.out ⟨(blk_cell B5.out 0).trans rfl, (blk_cell B5.out 1).trans rfl, (blk_cell B5.out 2).trans rfl, (blk_cell B5.out 3).trans rfl⟩)⟩ (fun hHeld => ?_)
      clear hK K
      refine nor_ 66 ?_
      refine pur_ 14 (some 67) rfl rfl (any_of HT_.out (by kernel_rfl)) ?_
      refine pur_ 15 (some 68) rfl rfl (any_of HT_.out (by kernel_rfl)) ?_
      refine pur_ 16 (some 69) rfl rfl (any_of HT_.out (by kernel_rfl)) ?_
      refine oon_ 17 (some 70) rfl rfl (one_of HT_.out (by kernel_rfl)) (fun K hK => ?_)
      refine gos_ Try.func8 (l38_known.calls E5  _ _ Gb.out) ?_
      rintro e w48 ⟨rfl, hb⟩
      refine ⟨_, rfl, ?_⟩
      replace B7 := am_ (Kd.R_below B7.out hb)
      replace B9 := am_ (Kd.N_below B9.out hb)
      replace Ba := am_ (Kd.R_below Ba.out hb)
      replace Bb := am_ (Kd.N_below Bb.out hb)
      replace B1 := bkb_ B1 hb
      replace B2 := bkb_ B2 hb
      replace B3 := bkb_ B3 hb
      replace B5 := bkb_ B5 hb
      replace HB := bst_ HB hb
      (try clear hb)
      (try clear hb2)
      (try clear hk)
      (try clear hi)
      refine hK.out _ _ ⟨(blk_cell B2.out 0).trans rfl, (blk_cell B2.out 1).trans rfl, (blk_cell B2.out 2).trans rfl, (blk_cell B2.out 3).trans rfl, (blk_cell B3.out 0).trans rfl, (blk_cell B3.out 1).trans rfl, (blk_cell B3.out 2).trans rfl, (blk_cell B3.out 3).trans rfl, (and_14 B1.out ⟨(blk_cell B5.out 0).trans rfl, (blk_cell B5.out 1).trans rfl, (blk_cell B5.out 2).trans rfl, (blk_cell B5.out 3).trans rfl⟩)⟩ (fun hHeld => ?_)
      clear hK K
      refine nor_ 70 ?_
      refine pur_ 18 (some 71) rfl rfl (any_of HT_.out (by kernel_rfl)) ?_
      refine pur_ 19 (some 8) rfl rfl (any_of HT_.out (by kernel_rfl)) ?_
      refine done_ (done_of HT_.out (by kernel_rfl)) ?_
      try go_wp2
      go_ret
      exact ⟨by first | rfl | (simp [*] <;> rfl), by repeat (first | (with_reducible first | exact HB.out | apply ba_ | apply bn_ | apply bd_ | refine bs_ ?_ Bl.out | refine bs_ ?_ De.out | refine bs_ ?_ E0.out | refine bs_ ?_ E4.out) | exact HB.out)⟩
     ·rw [if_neg Dz] at H
      have Ec : (Dk == Dl) = false := by simpa using Dz
      (try (have Ed : decide (Dk = Dl) = false := by simpa using Dz))
      (try (have Ee : (Dk == Dl) = false := by simpa using Dz))
      (try (have G2 : ¬ (Dk = Dl) := by simpa using Dz))
      clear Dz
      exact absurd H (by simp)
    ·replace Eo := Bool.eq_false_iff.mpr Eo
     subst Eo
     rw [if_neg (show ¬ (false = true) by decide)] at H
     exact absurd H (by simp)
end Go.Proofs.Ytdnccjlfongdeaa.Gn
