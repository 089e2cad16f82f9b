import Derived.Test.YthdoghhmooodjaaZPremiseAfterGn0
import Derived.Test.YthdoghhmooodjaaZPremiseAfterGn1
import Derived.Test.YthdoghhmooodjaaZPremiseAfterGn11
import Derived.Test.YthdoghhmooodjaaZPremiseAfterGn14
namespace Go.Proofs.Ythdoghhmooodjaa.Gn
open Go.RowKit Go.Proofs.YthdoghhmooodjaaW.PrintWords Go.Proofs.YthdoghhmooodjaaW.PrintLast Go.Proofs.YthdoghhmooodjaaW.PrintMore
attribute [local go_sem] max2_int min2_int max_two min_two max_three min_three max_four min_four   -- for this text's walks alone
set_option linter.unusedVariables false
set_option linter.unusedSimpArgs false
def script_tick.j0 : Nat → Bool → Int → Int → Int → Int → Int → Int → Int → Int → Int → Int → List Int → List Int → List Int → List (S74) → List (S48) → List (S74) → List (S81) → Option (Int)
 | 0, _, _, _, _, _, _, _, _, _, _, _, _, _, _, _, _, _, _ => none
 | k + 1, x6, B6, B7, B8, B9, Ba, Bb, Bc, Bd, Be, Bf, Bg, B1, B2, B3, B4, B5, B0 => if x6 = true then (some 2) else ((script_full.f B1 B2 B3 B4 B5 B0).bind fun Bh => (if Bh = true then (some 9) else ((script_named.f B6 B7 B8 B9 Ba Bb Bc Bd Be Bf Bg B1 B2 B3 B4 B5 B0).bind fun Bi => (if Bi = true then ((script_short.f B1 B2 B3 B4 B5 B0).bind fun Bj => (if Bj = true then ((script_every_tick2.f B0 ()).bind fun Bk => (if Bk = true then (some 0) else (some 15))) else (some 6))) else (some 7)))))
def script_tick.f (k : Nat) (B0 B6 B7 B8 B9 Ba Bb Bc Bd Be : Int) (B1 B2 B3 : List Int) (B4 : List (S74)) (Bf : List (S48)) (B5 : List (S74)) (Bg : List (S81)) : Option (Int) := (script_numbers.f B2 B0).bind fun Bh => (if Bh = true then ((script_numbers.f B3 (wrap64 (B0 * B0))).bind fun Bi => (if Bi = true then ((script_every_tick1.f B4 ()).bind fun Bj => (if Bj = true then ((script_every_tick1.f B5 ()).bind fun Bk => (script_tick.j0 k (!Bk) B0 B6 B7 B8 B9 Ba Bb Bc Bd Be B1 B2 B3 B4 Bf B5 Bg)) else (script_tick.j0 k (!Bj) B0 B6 B7 B8 B9 Ba Bb Bc Bd Be B1 B2 B3 B4 Bf B5 Bg))) else (script_tick.j0 k (!Bi) B0 B6 B7 B8 B9 Ba Bb Bc Bd Be B1 B2 B3 B4 Bf B5 Bg))) else (script_tick.j0 k (!Bh) B0 B6 B7 B8 B9 Ba Bb Bc Bd Be B1 B2 B3 B4 Bf B5 Bg))
theorem script_tick.mono_l : ∀ k, (∀ y0 y1 y2 y3 y4 y5 y6 y7 y8 y9 B0 B1 B2 B3 B4 B5 B6 B7, LeO (script_tick.j0 k y0 y1 y2 y3 y4 y5 y6 y7 y8 y9 B0 B1 B2 B3 B4 B5 B6 B7) (script_tick.j0 (k + 1) y0 y1 y2 y3 y4 y5 y6 y7 y8 y9 B0 B1 B2 B3 B4 B5 B6 B7))
 | 0 => fun _ _ _ _ _ _ _ _ _ _ _ _ _ _ _ _ _ _ r h => by simp [script_tick.j0] at h
 | k + 1 => by
  have B8 := script_tick.mono_l k
  ·intro y0 y1 y2 y3 y4 y5 y6 y7 y8 y9 B0 B1 B2 B3 B4 B5 B6 B7
   unfold script_tick.j0
   repeat' first
   | (with_reducible exact B8 _ _ _ _ _ _ _ _ _ _ _ _ _ _ _ _ _ _)
   | (with_reducible exact LeO.refl _)
   | (with_reducible exact LeO.none _)
   | (with_reducible refine LeO.ite ?_ ?_)
   | (with_reducible refine LeO.bind ?_ (fun _ => ?_))
   | exact B8 _ _ _ _ _ _ _ _ _ _ _ _ _ _ _ _ _ _
   | exact LeO.none _
   | refine LeO.ite ?_ ?_
   | refine LeO.bind ?_ (fun _ => ?_)
theorem script_tick.mono : ∀ a0 a1 a2 a3 a4 a5 a6 a7 a8 a9 B0 B1 B2 B3 B4 B5 B6 k, LeO (script_tick.f k a0 a1 a2 a3 a4 a5 a6 a7 a8 a9 B0 B1 B2 B3 B4 B5 B6) (script_tick.f (k + 1) a0 a1 a2 a3 a4 a5 a6 a7 a8 a9 B0 B1 B2 B3 B4 B5 B6) := by
 intro a0 a1 a2 a3 a4 a5 a6 a7 a8 a9 B0 B1 B2 B3 B4 B5 B6 k
 have B7 := script_tick.mono_l k
 unfold script_tick.f
 repeat' first
   | (with_reducible exact B7 _ _ _ _ _ _ _ _ _ _ _ _ _ _ _ _ _ _)
   | (with_reducible exact LeO.refl _)
   | (with_reducible exact LeO.none _)
   | (with_reducible refine LeO.ite ?_ ?_)
   | (with_reducible refine LeO.bind ?_ (fun _ => ?_))
   | exact B7 _ _ _ _ _ _ _ _ _ _ _ _ _ _ _ _ _ _
   | exact LeO.none _
   | refine LeO.ite ?_ ?_
   | refine LeO.bind ?_ (fun _ => ?_)
set_option maxHeartbeats 8000000 in
set_option maxRecDepth 100000 in
theorem script_tick.calls (k : Nat) (Bl Bq Br Bs Bt Bu Bv Bw Bx By : Int) (D1 : Option Addr) (D2 : Nat) (Bb : List Int) (D5 : Option Addr) (D6 : Nat) (B8 : List Int) (D7 : Option Addr) (D8 : Nat) (B4 : List Int) (D9 : Option Addr) (Da : Nat) (B5 : List (S74)) (Db : Option Addr) (Dc : Nat) (Bc : List (S48)) (Dd : Option Addr) (De : Nat) (B9 : List (S74)) (Df : Option Addr) (Dg : Nat) (Ba : List (S81)) (r : Int) (w : World) (D3 : Kd.C (Kd.int .i64) w D1 Bb.length Bb) (D4 : Bb.length ≤ D2) (Di : Kd.C (Kd.int .i64) w D5 B8.length B8) (Dj : B8.length ≤ D6) (Dk : Kd.C (Kd.int .i64) w D7 B4.length B4) (Dl : B4.length ≤ D8) (Dm : Kd.C k74 w D9 B5.length B5) (Dn : B5.length ≤ Da) (Do : Kd.C k48 w Db Bc.length Bc) (Dp : Bc.length ≤ Dc) (Dq : Kd.C k74 w Dd B9.length B9) (Dr : B9.length ≤ De) (Ds : Kd.C k81 w Df Ba.length Ba) (Dt : Ba.length ≤ Dg) (h : script_tick.f k Bl Bq Br Bs Bt Bu Bv Bw Bx By Bb B8 B4 B5 Bc B9 Ba = some r) :
  Calls Try.prog 41 #[.agg #[.int .i64 Bl, .int .i64 Bq, .int .i64 Br, .int .i64 Bs, .int .i64 Bt, .int .i64 Bu, .int .i64 Bv, .int .i64 Bw, .int .i64 Bx, .int .i64 By, .slice D1 Bb.length D2], .agg #[.slice D5 B8.length D6, .slice D7 B4.length D8, .slice D9 B5.length Da, .slice Db Bc.length Dc, .slice Dd B9.length De, .slice Df Ba.length Dg]] w fun e w' => e = .returned (.int .i64 r) ∧ Below w.heap.size w w' := by
 have Ga := Try.underlying24
 have Gb := Try.underlying44
 have Bz := am_ D3
 have D0 := am_ D4
 clear D3 D4
 have Bf := am_ Di
 have Bg := am_ Dj
 clear Di Dj
 have B6 := am_ Dk
 have B7 := am_ Dl
 clear Dk Dl
 have Bd := am_ Dm
 have Be := am_ Dn
 clear Dm Dn
 have Bm := am_ Do
 have Bn := am_ Dp
 clear Do Dp
 have Bh := am_ Dq
 have Bi := am_ Dr
 clear Dq Dr
 have Bj := am_ Ds
 have Bk := am_ Dt
 clear Ds Dt
 have HB := am_ (Below.refl w.heap.size w)
 have H := h
 unfold script_tick.f at H
 clear h
 obtain ⟨Ep, A3, H⟩ := bes_ H
 try dsimp only at H
 have Eq := am_ H
 clear H
 go_enter Try.func41, Try.ntmps41
 go_upto_if 6 with (first | ((with_reducible refine gate_dst (N := 2) rfl ?_); refine bxe_ 2 24 #[.int .i64 Bl, .int .i64 Bq, .int .i64 Br, .int .i64 Bs, .int .i64 Bt, .int .i64 Bu, .int .i64 Bv, .int .i64 Bw, .int .i64 Bx, .int .i64 By, .slice D1 Bb.length D2] ?_; intro Du hg w5 hbox hb; have B1 := am_ (hbox); have Dv := gwk_ HB hg; have Bo := Dv; replace HB := bst_ HB hb; clear hb hbox hg) | ((with_reducible refine gate_dst (N := 3) rfl ?_); refine bxe_ 3 44 #[.slice D5 B8.length D6, .slice D7 B4.length D8, .slice D9 B5.length Da, .slice Db Bc.length Dc, .slice Dd B9.length De, .slice Df Ba.length Dg] ?_; intro Dw hg w6 hbox hb; have B0 := am_ (hbox); have Dx := gwk_ HB hg; have Bp := Dx; replace HB := bst_ HB hb; have B2 := nbk_ B1 hg; have B3 := nbs_ B2; replace B1 := bkb_ B1 hb; clear hb hbox hg; have Gc := B3.out; have Gd := B2.out; have Er := cells_6 B0.out; have Es := frozen_6 B0.out; have Et := cells_11 B1.out; have Eu := frozen_11 B1.out) | ((with_reducible refine gate_callee (f := 68) rfl ?_); refine gom_ (some 11) Try.func68 (script_numbers.calls _ _ B8 Bl _ _ (Kd.C_below Bf.out HB.out) Bg.out A3.out) ?_; rintro e w10 ⟨rfl, hb⟩; refine ⟨_, rfl, ?_⟩; replace B1 := bkb_ B1 hb; replace B0 := bkb_ B0 hb; replace HB := bst_ HB hb; (try clear hb)))
 (try simp only [Act.put, zs_])
 go_cut [6] (fun v6 wc => ∃ (kq : Nat) (Dh : Bool), v6 = .bool Dh ∧ Aside0 (script_tick.j0 kq Dh Bl Bq Br Bs Bt Bu Bv Bw Bx By Bb B8 B4 B5 Bc B9 Ba = some r) ∧ Aside0 (kq ≤ k) ∧ Aside0 (wc.heap[Du]? = some (.cells #[.int .i64 Bl, .int .i64 Bq, .int .i64 Br, .int .i64 Bs, .int .i64 Bt, .int .i64 Bu, .int .i64 Bv, .int .i64 Bw, .int .i64 Bx, .int .i64 By, (.slice D1 Bb.length D2)] 24 (0, 0))) ∧ Aside0 (wc.heap[Dw]? = some (.cells #[(.slice D5 B8.length D6), (.slice D7 B4.length D8), (.slice D9 B5.length Da), (.slice Db Bc.length Dc), (.slice Dd B9.length De), (.slice Df Ba.length Dg)] 44 (0, 0))) ∧ Aside0 (Below w.heap.size w wc))
 case first =>
  have H := Eq.out
  clear Eq
  by_cases Dy : Ep = true
  ·subst Dy
   rw [if_pos rfl] at H
   obtain ⟨Ev, Ew, H⟩ := bes_ H
   try dsimp only at H
   by_cases Dz : Ev = true
   ·subst Dz
    rw [if_pos rfl] at H
    obtain ⟨Ex, F4, H⟩ := bes_ H
    try dsimp only at H
    by_cases E0 : Ex = true
    ·subst E0
     rw [if_pos rfl] at H
     obtain ⟨Ey, Ge, H⟩ := bes_ H
     try dsimp only at H
     have H' := am_ H
     clear H
     have F5 := B3.out
     have F6 := B2.out
     have E1 := cells_6 B0.out
     have E2 := frozen_6 B0.out
     have E3 := cells_11 B1.out
     have E4 := frozen_11 B1.out
     go_wp2_with (first | ((with_reducible refine gate_callee (f := 68) rfl ?_); refine gom_ (some 20) Try.func68 (script_numbers.calls _ _ B4 (wrap64 (Bl * Bl)) _ _ (Kd.C_below B6.out HB.out) B7.out Ew.out) ?_; rintro e w20 ⟨rfl, hb⟩; refine ⟨_, rfl, ?_⟩; replace B1 := bkb_ B1 hb; replace B0 := bkb_ B0 hb; replace HB := bst_ HB hb; (try clear hb); have E5 := cells_6 B0.out; have E6 := frozen_6 B0.out) | ((with_reducible refine gate_callee (f := 69) rfl ?_); refine gom_ (some 25) Try.func69 (script_every_tick1.calls _ _ B5 () _ _ (Kd.C_below Bd.out HB.out) Be.out F4.out) ?_; rintro e w22 ⟨rfl, hb⟩; refine ⟨_, rfl, ?_⟩; replace B1 := bkb_ B1 hb; replace B0 := bkb_ B0 hb; replace HB := bst_ HB hb; (try clear hb); have E7 := cells_6 B0.out; have E8 := frozen_6 B0.out) | ((with_reducible refine gate_callee (f := 69) rfl ?_); refine gom_ (some 30) Try.func69 (script_every_tick1.calls _ _ B9 () _ _ (Kd.C_below Bh.out HB.out) Bi.out Ge.out) ?_; rintro e w24 ⟨rfl, hb⟩; refine ⟨_, rfl, ?_⟩; replace B1 := bkb_ B1 hb; replace B0 := bkb_ B0 hb; replace HB := bst_ HB hb; (try clear hb)))
     go_meet
     case rel => exact ⟨_, (!Ey), (by first | rfl | (simp; done) | (simp [*]; done)), H', ⟨by first | omega | exact Nat.le_refl _⟩, ⟨by (with_reducible repeat (first | apply kn_ | apply kd_ | apply ka_)); exact B1.out⟩, ⟨by (with_reducible repeat (first | apply kn_ | apply kd_ | apply ka_)); exact B0.out⟩, ⟨by repeat (first | (with_reducible first | exact HB.out | apply ba_ | apply bn_ | apply bd_ | refine bs_ ?_ Bo.out | refine bs_ ?_ Bp.out) | exact HB.out)⟩⟩
    ·replace E0 := Bool.eq_false_iff.mpr E0
     subst E0
     rw [if_neg (show ¬ (false = true) by decide)] at H
     have H' := am_ H
     clear H
     have F7 := B3.out
     have F8 := B2.out
     have E9 := cells_6 B0.out
     have Ea := frozen_6 B0.out
     have Eb := cells_11 B1.out
     have Ec := frozen_11 B1.out
     go_wp2_with (first | ((with_reducible refine gate_callee (f := 68) rfl ?_); refine gom_ (some 20) Try.func68 (script_numbers.calls _ _ B4 (wrap64 (Bl * Bl)) _ _ (Kd.C_below B6.out HB.out) B7.out Ew.out) ?_; rintro e w28 ⟨rfl, hb⟩; refine ⟨_, rfl, ?_⟩; replace B1 := bkb_ B1 hb; replace B0 := bkb_ B0 hb; replace HB := bst_ HB hb; (try clear hb); have Ed := cells_6 B0.out; have Ee := frozen_6 B0.out) | ((with_reducible refine gate_callee (f := 69) rfl ?_); refine gom_ (some 25) Try.func69 (script_every_tick1.calls _ _ B5 () _ _ (Kd.C_below Bd.out HB.out) Be.out F4.out) ?_; rintro e w30 ⟨rfl, hb⟩; refine ⟨_, rfl, ?_⟩; replace B1 := bkb_ B1 hb; replace B0 := bkb_ B0 hb; replace HB := bst_ HB hb; (try clear hb)))
     go_meet
     case rel => exact ⟨_, (!false), (by first | rfl | (simp; done) | (simp [*]; done)), H', ⟨by first | omega | exact Nat.le_refl _⟩, ⟨by (with_reducible repeat (first | apply kn_ | apply kd_ | apply ka_)); exact B1.out⟩, ⟨by (with_reducible repeat (first | apply kn_ | apply kd_ | apply ka_)); exact B0.out⟩, ⟨by repeat (first | (with_reducible first | exact HB.out | apply ba_ | apply bn_ | apply bd_ | refine bs_ ?_ Bo.out | refine bs_ ?_ Bp.out) | exact HB.out)⟩⟩
   ·replace Dz := Bool.eq_false_iff.mpr Dz
    subst Dz
    rw [if_neg (show ¬ (false = true) by decide)] at H
    have H' := am_ H
    clear H
    have F9 := B3.out
    have Fa := B2.out
    have Ef := cells_6 B0.out
    have Eg := frozen_6 B0.out
    have Eh := cells_11 B1.out
    have Ei := frozen_11 B1.out
    go_wp2_with (first | ((with_reducible refine gate_callee (f := 68) rfl ?_); refine gom_ (some 20) Try.func68 (script_numbers.calls _ _ B4 (wrap64 (Bl * Bl)) _ _ (Kd.C_below B6.out HB.out) B7.out Ew.out) ?_; rintro e w34 ⟨rfl, hb⟩; refine ⟨_, rfl, ?_⟩; replace B1 := bkb_ B1 hb; replace B0 := bkb_ B0 hb; replace HB := bst_ HB hb; (try clear hb)))
    go_meet
    case rel => exact ⟨_, (!false), (by first | rfl | (simp; done) | (simp [*]; done)), H', ⟨by first | omega | exact Nat.le_refl _⟩, ⟨by (with_reducible repeat (first | apply kn_ | apply kd_ | apply ka_)); exact B1.out⟩, ⟨by (with_reducible repeat (first | apply kn_ | apply kd_ | apply ka_)); exact B0.out⟩, ⟨by repeat (first | (with_reducible first | exact HB.out | apply ba_ | apply bn_ | apply bd_ | refine bs_ ?_ Bo.out | refine bs_ ?_ Bp.out) | exact HB.out)⟩⟩
  ·replace Dy := Bool.eq_false_iff.mpr Dy
   subst Dy
   rw [if_neg (show ¬ (false = true) by decide)] at H
   have H' := am_ H
   clear H
   go_wp2
   go_meet
   case rel => exact ⟨_, (!false), (by first | rfl | (simp; done) | (simp [*]; done)), H', ⟨by first | omega | exact Nat.le_refl _⟩, ⟨by (with_reducible repeat (first | apply kn_ | apply kd_ | apply ka_)); exact B1.out⟩, ⟨by (with_reducible repeat (first | apply kn_ | apply kd_ | apply ka_)); exact B0.out⟩, ⟨by repeat (first | (with_reducible first | exact HB.out | apply ba_ | apply bn_ | apply bd_ | refine bs_ ?_ Bo.out | refine bs_ ?_ Bp.out) | exact HB.out)⟩⟩
 case rest =>
  clear Eq
  try clear c1
  try clear c2
  try clear p2
  try clear c3
  try clear c4
  try clear c6
  try clear p6
  try clear c7
  try clear Dy
  try clear Dz
  try clear E0
  try clear c17
  try clear c25
  try clear c31
  try clear E1
  try clear E3
  try clear E5
  try clear E7
  try clear E9
  try clear Eb
  try clear Ed
  try clear Ef
  try clear Eh
  try clear Er
  try clear Et
  try clear E2
  try clear E4
  try clear E6
  try clear E8
  try clear Ea
  try clear Ec
  try clear Ee
  try clear Eg
  try clear Ei
  try clear Es
  try clear Eu
  obtain ⟨kq, Dh, rfl, HA, Gg, B1, B0, HB⟩ := hcut
  cases kq with
  | zero => exact absurd HA.out (by simp [script_tick.j0])
  | succ Gh =>
   have H := HA.out
   clear HA
   simp only [script_tick.j0] at H
   by_cases Ej : Dh = true
   ·subst Ej
    rw [if_pos rfl] at H
    obtain rfl := Option.some.inj H
    go_wp2
    go_ret
    exact ⟨by first | rfl | (simp [*] <;> rfl), by repeat (first | (with_reducible first | exact HB.out | apply ba_ | apply bn_ | apply bd_ | refine bs_ ?_ Bo.out | refine bs_ ?_ Bp.out) | exact HB.out)⟩
   ·replace Ej := Bool.eq_false_iff.mpr Ej
    subst Ej
    rw [if_neg (show ¬ (false = true) by decide)] at H
    obtain ⟨Ez, Ek, H⟩ := bes_ H
    try dsimp only at H
    by_cases El : Ez = true
    ·subst El
     rw [if_pos rfl] at H
     obtain rfl := Option.some.inj H
     have Fb := B3.out
     have Fc := B2.out
     have Fd := cells_6 B0.out
     have Fe := frozen_6 B0.out
     go_wp2_with (first | ((with_reducible refine gate_callee (f := 70) rfl ?_); refine gom_ (some 34) Try.func70 (script_full.calls _ _ B8 _ _ B4 _ _ B5 _ _ Bc _ _ B9 _ _ Ba _ _ (Kd.C_below Bf.out HB.out) Bg.out (Kd.C_below B6.out HB.out) B7.out (Kd.C_below Bd.out HB.out) Be.out (Kd.C_below Bm.out HB.out) Bn.out (Kd.C_below Bh.out HB.out) Bi.out (Kd.C_below Bj.out HB.out) Bk.out Ek.out) ?_; rintro e w40 ⟨rfl, hb⟩; refine ⟨_, rfl, ?_⟩; replace B1 := bkb_ B1 hb; replace B0 := bkb_ B0 hb; replace HB := bst_ HB hb; (try clear hb)))
     go_ret
     exact ⟨by first | rfl | (simp [*] <;> rfl), by repeat (first | (with_reducible first | exact HB.out | apply ba_ | apply bn_ | apply bd_ | refine bs_ ?_ Bo.out | refine bs_ ?_ Bp.out) | exact HB.out)⟩
    ·replace El := Bool.eq_false_iff.mpr El
     subst El
     rw [if_neg (show ¬ (false = true) by decide)] at H
     obtain ⟨F0, F1, H⟩ := bes_ H
     try dsimp only at H
     by_cases Em : F0 = true
     ·subst Em
      rw [if_pos rfl] at H
      obtain ⟨F2, Ff, H⟩ := bes_ H
      try dsimp only at H
      by_cases En : F2 = true
      ·subst En
       rw [if_pos rfl] at H
       obtain ⟨F3, Gf, H⟩ := bes_ H
       try dsimp only at H
       by_cases Eo : F3 = true
       subst Eo
       rw [if_pos rfl] at H
       obtain rfl := Option.some.inj H
       rotate_left
       replace Eo := Bool.eq_false_iff.mpr Eo
       subst Eo
       rw [if_neg (show ¬ (false = true) by decide)] at H
       obtain rfl := Option.some.inj H
       rotate_left
       all_goals
        have Fg := B3.out
        have Fh := B2.out
        have Fi := cells_6 B0.out
        have Fj := frozen_6 B0.out
        go_wp2_with (first | ((with_reducible refine gate_callee (f := 70) rfl ?_); refine gom_ (some 34) Try.func70 (script_full.calls _ _ B8 _ _ B4 _ _ B5 _ _ Bc _ _ B9 _ _ Ba _ _ (Kd.C_below Bf.out HB.out) Bg.out (Kd.C_below B6.out HB.out) B7.out (Kd.C_below Bd.out HB.out) Be.out (Kd.C_below Bm.out HB.out) Bn.out (Kd.C_below Bh.out HB.out) Bi.out (Kd.C_below Bj.out HB.out) Bk.out Ek.out) ?_; rintro e w49 ⟨rfl, hb⟩; refine ⟨_, rfl, ?_⟩; replace B1 := bkb_ B1 hb; replace B0 := bkb_ B0 hb; replace HB := bst_ HB hb; (try clear hb); have Fk := cells_11 B1.out; have Fl := frozen_11 B1.out; have Fm := cells_6 B0.out; have Fn := frozen_6 B0.out) | ((with_reducible refine gate_callee (f := 71) rfl ?_); refine gom_ (some 38) Try.func71 (script_named.calls Bl Bq Br Bs Bt Bu Bv Bw Bx By _ _ Bb _ _ B8 _ _ B4 _ _ B5 _ _ Bc _ _ B9 _ _ Ba _ _ (Kd.C_below Bz.out HB.out) D0.out (Kd.C_below Bf.out HB.out) Bg.out (Kd.C_below B6.out HB.out) B7.out (Kd.C_below Bd.out HB.out) Be.out (Kd.C_below Bm.out HB.out) Bn.out (Kd.C_below Bh.out HB.out) Bi.out (Kd.C_below Bj.out HB.out) Bk.out F1.out) ?_; rintro e w52 ⟨rfl, hb⟩; refine ⟨_, rfl, ?_⟩; replace B1 := bkb_ B1 hb; replace B0 := bkb_ B0 hb; replace HB := bst_ HB hb; (try clear hb); have Fo := cells_6 B0.out; have Fp := frozen_6 B0.out) | ((with_reducible refine gate_callee (f := 72) rfl ?_); refine gom_ (some 42) Try.func72 (script_short.calls _ _ B8 _ _ B4 _ _ B5 _ _ Bc _ _ B9 _ _ Ba _ _ (Kd.C_below Bf.out HB.out) Bg.out (Kd.C_below B6.out HB.out) B7.out (Kd.C_below Bd.out HB.out) Be.out (Kd.C_below Bm.out HB.out) Bn.out (Kd.C_below Bh.out HB.out) Bi.out (Kd.C_below Bj.out HB.out) Bk.out Ff.out) ?_; rintro e w54 ⟨rfl, hb⟩; refine ⟨_, rfl, ?_⟩; replace B1 := bkb_ B1 hb; replace B0 := bkb_ B0 hb; replace HB := bst_ HB hb; (try clear hb); have Fq := cells_6 B0.out; have Fr := frozen_6 B0.out) | ((with_reducible refine gate_callee (f := 73) rfl ?_); refine gom_ (some 47) Try.func73 (script_every_tick2.calls _ _ Ba () _ _ (Kd.C_below Bj.out HB.out) Bk.out Gf.out) ?_; rintro e w56 ⟨rfl, hb⟩; refine ⟨_, rfl, ?_⟩; replace B1 := bkb_ B1 hb; replace B0 := bkb_ B0 hb; replace HB := bst_ HB hb; (try clear hb)))
        go_ret
        exact ⟨by first | rfl | (simp [*] <;> rfl), by repeat (first | (with_reducible first | exact HB.out | apply ba_ | apply bn_ | apply bd_ | refine bs_ ?_ Bo.out | refine bs_ ?_ Bp.out) | exact HB.out)⟩
      ·replace En := Bool.eq_false_iff.mpr En
       subst En
       rw [if_neg (show ¬ (false = true) by decide)] at H
       obtain rfl := Option.some.inj H
       have Fs := B3.out
       have Ft := B2.out
       have Fu := cells_6 B0.out
       have Fv := frozen_6 B0.out
       go_wp2_with (first | ((with_reducible refine gate_callee (f := 70) rfl ?_); refine gom_ (some 34) Try.func70 (script_full.calls _ _ B8 _ _ B4 _ _ B5 _ _ Bc _ _ B9 _ _ Ba _ _ (Kd.C_below Bf.out HB.out) Bg.out (Kd.C_below B6.out HB.out) B7.out (Kd.C_below Bd.out HB.out) Be.out (Kd.C_below Bm.out HB.out) Bn.out (Kd.C_below Bh.out HB.out) Bi.out (Kd.C_below Bj.out HB.out) Bk.out Ek.out) ?_; rintro e w69 ⟨rfl, hb⟩; refine ⟨_, rfl, ?_⟩; replace B1 := bkb_ B1 hb; replace B0 := bkb_ B0 hb; replace HB := bst_ HB hb; (try clear hb); have Fw := cells_11 B1.out; have Fx := frozen_11 B1.out; have Fy := cells_6 B0.out; have Fz := frozen_6 B0.out) | ((with_reducible refine gate_callee (f := 71) rfl ?_); refine gom_ (some 38) Try.func71 (script_named.calls Bl Bq Br Bs Bt Bu Bv Bw Bx By _ _ Bb _ _ B8 _ _ B4 _ _ B5 _ _ Bc _ _ B9 _ _ Ba _ _ (Kd.C_below Bz.out HB.out) D0.out (Kd.C_below Bf.out HB.out) Bg.out (Kd.C_below B6.out HB.out) B7.out (Kd.C_below Bd.out HB.out) Be.out (Kd.C_below Bm.out HB.out) Bn.out (Kd.C_below Bh.out HB.out) Bi.out (Kd.C_below Bj.out HB.out) Bk.out F1.out) ?_; rintro e w72 ⟨rfl, hb⟩; refine ⟨_, rfl, ?_⟩; replace B1 := bkb_ B1 hb; replace B0 := bkb_ B0 hb; replace HB := bst_ HB hb; (try clear hb); have G0 := cells_6 B0.out; have G1 := frozen_6 B0.out) | ((with_reducible refine gate_callee (f := 72) rfl ?_); refine gom_ (some 42) Try.func72 (script_short.calls _ _ B8 _ _ B4 _ _ B5 _ _ Bc _ _ B9 _ _ Ba _ _ (Kd.C_below Bf.out HB.out) Bg.out (Kd.C_below B6.out HB.out) B7.out (Kd.C_below Bd.out HB.out) Be.out (Kd.C_below Bm.out HB.out) Bn.out (Kd.C_below Bh.out HB.out) Bi.out (Kd.C_below Bj.out HB.out) Bk.out Ff.out) ?_; rintro e w74 ⟨rfl, hb⟩; refine ⟨_, rfl, ?_⟩; replace B1 := bkb_ B1 hb; replace B0 := bkb_ B0 hb; replace HB := bst_ HB hb; (try clear hb)))
       go_ret
       exact ⟨by first | rfl | (simp [*] <;> rfl), by repeat (first | (with_reducible first | exact HB.out | apply ba_ | apply bn_ | apply bd_ | refine bs_ ?_ Bo.out | refine bs_ ?_ Bp.out) | exact HB.out)⟩
     ·replace Em := Bool.eq_false_iff.mpr Em
      subst Em
      rw [if_neg (show ¬ (false = true) by decide)] at H
      obtain rfl := Option.some.inj H
      have G2 := B3.out
      have G3 := B2.out
      have G4 := cells_6 B0.out
      have G5 := frozen_6 B0.out
      go_wp2_with (first | ((with_reducible refine gate_callee (f := 70) rfl ?_); refine gom_ (some 34) Try.func70 (script_full.calls _ _ B8 _ _ B4 _ _ B5 _ _ Bc _ _ B9 _ _ Ba _ _ (Kd.C_below Bf.out HB.out) Bg.out (Kd.C_below B6.out HB.out) B7.out (Kd.C_below Bd.out HB.out) Be.out (Kd.C_below Bm.out HB.out) Bn.out (Kd.C_below Bh.out HB.out) Bi.out (Kd.C_below Bj.out HB.out) Bk.out Ek.out) ?_; rintro e w77 ⟨rfl, hb⟩; refine ⟨_, rfl, ?_⟩; replace B1 := bkb_ B1 hb; replace B0 := bkb_ B0 hb; replace HB := bst_ HB hb; (try clear hb); have G6 := cells_11 B1.out; have G7 := frozen_11 B1.out; have G8 := cells_6 B0.out; have G9 := frozen_6 B0.out) | ((with_reducible refine gate_callee (f := 71) rfl ?_); refine gom_ (some 38) Try.func71 (script_named.calls Bl Bq Br Bs Bt Bu Bv Bw Bx By _ _ Bb _ _ B8 _ _ B4 _ _ B5 _ _ Bc _ _ B9 _ _ Ba _ _ (Kd.C_below Bz.out HB.out) D0.out (Kd.C_below Bf.out HB.out) Bg.out (Kd.C_below B6.out HB.out) B7.out (Kd.C_below Bd.out HB.out) Be.out (Kd.C_below Bm.out HB.out) Bn.out (Kd.C_below Bh.out HB.out) Bi.out (Kd.C_below Bj.out HB.out) Bk.out F1.out) ?_; rintro e w80 ⟨rfl, hb⟩; refine ⟨_, rfl, ?_⟩; replace B1 := bkb_ B1 hb; replace B0 := bkb_ B0 hb; replace HB := bst_ HB hb; (try clear hb)))
      go_ret
      exact ⟨by first | rfl | (simp [*] <;> rfl), by repeat (first | (with_reducible first | exact HB.out | apply ba_ | apply bn_ | apply bd_ | refine bs_ ?_ Bo.out | refine bs_ ?_ Bp.out) | exact HB.out)⟩
end Go.Proofs.Ythdoghhmooodjaa.Gn
