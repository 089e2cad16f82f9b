import Derived.Test.YthdoghhmooodjaaZPremiseLastGn0
import Derived.Test.YthdoghhmooodjaaZPremiseLastGn1
import Derived.Test.YthdoghhmooodjaaZPremiseLastGn27
namespace Go.Proofs.Ythdoghhmooodjaa.Gn
open Go.RowKit Go.Proofs.YthdoghhmooodjaaW.PrintWords Go.Proofs.YthdoghhmooodjaaW.PrintLast Go.Proofs.YthdoghhmooodjaaW.PrintMore
attribute [local go_sem] max2_int min2_int max_two min_two max_three min_three max_four min_four   -- for this text's walks alone
set_option linter.unusedVariables false
set_option linter.unusedSimpArgs false
def r33_Units.j0 : Nat → Int → Int → Bool → Int → Int → Int → Int → Int → Int → Int → Int → Int → Int → List Int → List Int → List ByteArray → List (S44) → Option (Int)
 | 0, _, _, _, _, _, _, _, _, _, _, _, _, _, _, _, _, _ => none
 | k + 1, x1, x2, Be, B2, B3, B4, B5, B1, B6, B7, B8, B9, Ba, Bb, Bc, Bd, B0 => if Be = true then (some 0) else (if 0 ≤ x1 then (if x1 < (B0.length : Int) then (if x2 < (((rd_T44 B0 x1).f0).length : Int) then (if 0 ≤ x2 then (some (rd ((rd_T44 B0 x1).f0) x2)) else (none)) else (some B1)) else (none)) else (none))
def r33_Units.f (k : Nat) (B4 B5 B6 B7 B8 B9 Ba Bb Bc Bd : Int) (B0 B2 : List Int) (B3 : List ByteArray) (B1 : List (S44)) (a1 a2 : Int) : Option (Int) := if a1 < 0 then (r33_Units.j0 k a1 a2 true B4 B5 B6 B7 B8 B9 Ba Bb Bc Bd B0 B2 B3 B1) else (if a1 ≥ (B1.length : Int) then (r33_Units.j0 k a1 a2 true B4 B5 B6 B7 B8 B9 Ba Bb Bc Bd B0 B2 B3 B1) else ((r33_node.f B4 B5 B6 B7 B8 B9 Ba Bb Bc Bd B0 a2).bind fun Be => (r33_Units.j0 k a1 a2 (!Be) B4 B5 B6 B7 B8 B9 Ba Bb Bc Bd B0 B2 B3 B1)))
set_option maxHeartbeats 8000000 in
set_option maxRecDepth 100000 in
theorem r33_Units.calls (k : Nat) (Dj Dk Dl Dm Dn Do Dp Dq Dr Ds : Int) (By : Option Addr) (Bz : Nat) (B8 : List Int) (D0 : Option Addr) (D1 : Nat) (Bl : List Int) (D2 : Option Addr) (D3 : Nat) (Bm : List ByteArray) (D4 : Option Addr) (D5 : Nat) (B0 : List (S44)) (a1 a2 r : Int) (w : World) (Du : Kd.C (Kd.int .i64) w By B8.length B8) (Dv : B8.length ≤ Bz) (Dw : Kd.C (Kd.int .i64) w D0 Bl.length Bl) (Dx : Bl.length ≤ D1) (Dy : Kd.C Kd.string w D2 Bm.length Bm) (Dz : Bm.length ≤ D3) (E0 : Kd.C k44 w D4 B0.length B0) (E1 : B0.length ≤ D5) (h : r33_Units.f k Dj Dk Dl Dm Dn Do Dp Dq Dr Ds B8 Bl Bm B0 a1 a2 = some r) :
  Calls Try.prog 15 #[.agg #[.int .i64 Dj, .int .i64 Dk, .int .i64 Dl, .int .i64 Dm, .int .i64 Dn, .int .i64 Do, .int .i64 Dp, .int .i64 Dq, .int .i64 Dr, .int .i64 Ds, .slice By B8.length Bz, .slice D0 Bl.length D1, .slice D2 Bm.length D3, .slice D4 B0.length D5], .int .i64 a1, .int .i64 a2] w fun e w' => e = .returned (.int .i64 r) ∧ Below w.heap.size w w' := by
 have Gh := Try.underlying24
 have Eh := am_ Du
 have Ei := am_ Dv
 clear Du Dv
 have Fm := am_ Dw
 have Fn := am_ Dx
 clear Dw Dx
 have Fo := am_ Dy
 have Fp := am_ Dz
 clear Dy Dz
 have Bv := am_ E0
 have Fq := am_ E1
 clear E0 E1
 have HB := am_ (Below.refl w.heap.size w)
 have H := h
 unfold r33_Units.f at H
 clear h
 have Fr := am_ H
 clear H
 go_enter Try.func15, Try.ntmps15
 go_upto_region 1 with (first | ((with_reducible refine gate_load (t := 28) (x := .tmp 3) rfl ?_); refine lrg_ 28 (.tmp 3) E2 28 (by exact B1.out) Try.underlying28 ?_) | ((with_reducible refine gate_dst (N := 3) rfl ?_); (try (refine gate_guard (by rfl) ?_; dsimp only)); refine bxe_ 3 28 #[.int .i64 Dj, .int .i64 Dk, .int .i64 Dl, .int .i64 Dm, .int .i64 Dn, .int .i64 Do, .int .i64 Dp, .int .i64 Dq, .int .i64 Dr, .int .i64 Ds, .slice By B8.length Bz, .slice D0 Bl.length D1, .slice D2 Bm.length D3, .slice D4 B0.length D5] ?_; intro E2 hg w5 hbox hb; have B1 := am_ (hbox); have F1 := gwk_ HB hg; have Bt := F1; replace HB := bst_ HB hb; clear hb hbox hg))
 (try simp only [Act.put, zs_])
 go_cut [22] (fun v22 wc => ∃ (kq : Nat) (D6 : Bool), v22 = .bool D6 ∧ Aside0 (r33_Units.j0 kq a1 a2 D6 Dj Dk Dl Dm Dn Do Dp Dq Dr Ds B8 Bl Bm B0 = some r) ∧ Aside0 (kq ≤ k) ∧ Aside0 (wc.heap[E2]? = some (.cells #[.int .i64 Dj, .int .i64 Dk, .int .i64 Dl, .int .i64 Dm, .int .i64 Dn, .int .i64 Do, .int .i64 Dp, .int .i64 Dq, .int .i64 Dr, .int .i64 Ds, (.slice By B8.length Bz), (.slice D0 Bl.length D1), (.slice D2 Bm.length D3), (.slice D4 B0.length D5)] 28 (0, 0))) ∧ Aside0 (Below w.heap.size w wc))
 case first =>
  have H := Fr.out
  clear Fr
  by_cases c6 : a1 < 0
  ·rw [if_pos c6] at H
   have Dt : decide (a1 < 0) = true := decide_eq_true c6
   clear c6
   (first | rw [Dt] | (simp only [i64_w, i32_w]; rw [Dt]) | skip)
   have H' := am_ H
   clear H
   go_wp2
   go_meet
   case rel => exact ⟨_, (true), (by first | rfl | (simp; done) | (simp [*]; done)), H', ⟨by first | omega | exact Nat.le_refl _⟩, ⟨by (with_reducible repeat (first | apply kn_ | apply kd_ | apply ka_)); exact B1.out⟩, ⟨by repeat (first | (with_reducible first | exact HB.out | apply ba_ | apply bn_ | apply bd_ | refine bs_ ?_ Bt.out) | exact HB.out)⟩⟩
  ·rw [if_neg c6] at H
   have Dt : decide (a1 < 0) = false := decide_eq_false c6
   clear c6
   (first | rw [Dt] | (simp only [i64_w, i32_w]; rw [Dt]) | skip)
   by_cases c7 : a1 ≥ (B0.length : Int)
   ·rw [if_pos c7] at H
    have F2 : decide ((B0.length : Int) ≤ a1) = true := decide_eq_true c7
    clear c7
    have H' := am_ H
    clear H
    have Fs := cells_14 B1.out
    have Ft := frozen_14 B1.out
    go_wp2
    go_meet
    case rel => exact ⟨_, (true), (by first | rfl | (simp; done) | (simp [*]; done)), H', ⟨by first | omega | exact Nat.le_refl _⟩, ⟨by (with_reducible repeat (first | apply kn_ | apply kd_ | apply ka_)); exact B1.out⟩, ⟨by repeat (first | (with_reducible first | exact HB.out | apply ba_ | apply bn_ | apply bd_ | refine bs_ ?_ Bt.out) | exact HB.out)⟩⟩
   ·rw [if_neg c7] at H
    have F2 : decide ((B0.length : Int) ≤ a1) = false := decide_eq_false c7
    clear c7
    obtain ⟨Fu, A9, H⟩ := bes_ H
    try dsimp only at H
    have H' := am_ H
    clear H
    have F3 := cells_14 B1.out
    have F4 := frozen_14 B1.out
    go_wp2_with (first | ((with_reducible refine gate_load (t := 28) (x := .tmp 3) rfl ?_); refine lrg_ 28 (.tmp 3) E2 28 (by exact B1.out) Try.underlying28 ?_) | (go_at_call 43; (with_reducible refine (r33_node.calls Dj Dk Dl Dm Dn Do Dp Dq Dr Ds _ _ B8 a2 _ _ (Kd.C_below Eh.out HB.out) Ei.out A9.out).mono ?_); rintro e w11 ⟨rfl, hb⟩; replace B1 := bkb_ B1 hb; replace HB := bst_ HB hb; (try clear hb)))
    go_meet
    case rel => exact ⟨_, (!Fu), (by first | rfl | (simp; done) | (simp [*]; done)), H', ⟨by first | omega | exact Nat.le_refl _⟩, ⟨by (with_reducible repeat (first | apply kn_ | apply kd_ | apply ka_)); exact B1.out⟩, ⟨by repeat (first | (with_reducible first | exact HB.out | apply ba_ | apply bn_ | apply bd_ | refine bs_ ?_ Bt.out) | exact HB.out)⟩⟩
 case rest =>
  clear Fr
  try clear c1
  try clear p2
  try clear c6
  try clear Dt
  try clear c7
  try clear F2
  try clear F3
  try clear Fs
  try clear F4
  try clear Ft
  obtain ⟨kq, D6, rfl, HA, Gi, B1, HB⟩ := hcut
  cases kq with
  | zero => exact absurd HA.out (by simp [r33_Units.j0])
  | succ Gj =>
   have H := HA.out
   clear HA
   simp only [r33_Units.j0] at H
   by_cases F7 : D6 = true
   ·subst F7
    rw [if_pos rfl] at H
    obtain rfl := Option.some.inj H
    go_wp2
    go_ret
    exact ⟨by first | rfl | (simp [*] <;> rfl), by repeat (first | (with_reducible first | exact HB.out | apply ba_ | apply bn_ | apply bd_ | refine bs_ ?_ Bt.out) | exact HB.out)⟩
   ·replace F7 := Bool.eq_false_iff.mpr F7
    subst F7
    rw [if_neg (show ¬ (false = true) by decide)] at H
    by_cases F8 : 0 ≤ a1
    ·rw [if_pos F8] at H
     have G9 : decide (0 ≤ a1) = true := decide_eq_true F8
     clear F8
     by_cases F9 : a1 < (B0.length : Int)
     ·rw [if_pos F9] at H
      have Ga : decide (a1 < (B0.length : Int)) = true := decide_eq_true F9
      clear F9
      by_cases F0 : a2 < (((rd_T44 B0 a1).f0).length : Int)
      ·rw [if_pos F0] at H
       have F5 : decide (a2 < (((rd_T44 B0 a1).f0).length : Int)) = true := decide_eq_true F0
       clear F0
       by_cases Fa : 0 ≤ a2
       ·rw [if_pos Fa] at H
        have Gb : decide (0 ≤ a2) = true := decide_eq_true Fa
        clear Fa
        obtain rfl := Option.some.inj H
        have Gc := cells_14 B1.out
        have Gd := frozen_14 B1.out
        have Bw : 0 ≤ (a1 : Int) := of_decide_eq_true (by first | (with_reducible assumption) | assumption)
        have Bx : a1 < (B0.length : Int) := of_decide_eq_true (by first | (with_reducible assumption) | assumption)
        obtain ⟨Eg, Ej, Ek, El, Em, En, Eo, Ep, Eq, Er, Es, Et, Eu, Ev, B2, B3, B4, B5, B6, B7, B9, Ba, Bb, Bc, Bd, Be, Bf, Bg, Bh, Bi, Bj, Bk⟩ := at_T44 Bv.out a1 Bw Bx
        cases Ev
        replace B2 := (HB.out.cell (World.block_lt_of_cell? w _ B2)).trans B2
        replace B3 := (HB.out.cell (World.block_lt_of_cell? w _ B3)).trans B3
        replace B4 := (HB.out.cell (World.block_lt_of_cell? w _ B4)).trans B4
        replace B5 := (HB.out.cell (World.block_lt_of_cell? w _ B5)).trans B5
        replace B6 := (HB.out.cell (World.block_lt_of_cell? w _ B6)).trans B6
        replace B7 := (HB.out.cell (World.block_lt_of_cell? w _ B7)).trans B7
        have E3 := am_ Ba
        have E4 := am_ B9
        clear Ba B9
        have E5 := am_ Bc
        have E6 := am_ Bb
        clear Bc Bb
        have E7 := am_ Be
        have E8 := am_ Bd
        clear Be Bd
        have E9 := am_ Bg
        have Ea := am_ Bf
        clear Bg Bf
        have Eb := am_ Bi
        have Ec := am_ Bh
        clear Bi Bh
        have Ed := am_ Bk
        have Ee := am_ Bj
        clear Bk Bj
        replace Bw := eq_true Bw
        replace Bx := eq_true Bx
        have Ew : 0 ≤ (a1 : Int) := of_decide_eq_true (by first | (with_reducible assumption) | assumption)
        have Ex : a1 < (B0.length : Int) := of_decide_eq_true (by first | (with_reducible assumption) | assumption)
        obtain ⟨F6, Fv, Fw, Fx, Fy, Fz, G0, G1, G2, G3, G4, G5, G6, G7, Bn, Bo, Bp, Bq, Br, Bs, D7, D8, D9, Da, Db, Dc, Dd, De, Df, Dg, Dh, Di⟩ := at_T44 Bv.out a1 Ew Ex
        obtain rfl : Eg = F6 := (by injection G7)
        replace Bn := (HB.out.cell (World.block_lt_of_cell? w _ Bn)).trans Bn
        replace Bo := (HB.out.cell (World.block_lt_of_cell? w _ Bo)).trans Bo
        replace Bp := (HB.out.cell (World.block_lt_of_cell? w _ Bp)).trans Bp
        replace Bq := (HB.out.cell (World.block_lt_of_cell? w _ Bq)).trans Bq
        replace Br := (HB.out.cell (World.block_lt_of_cell? w _ Br)).trans Br
        replace Bs := (HB.out.cell (World.block_lt_of_cell? w _ Bs)).trans Bs
        have Ef := am_ D8
        have Fb := am_ D7
        clear D8 D7
        have Fc := am_ Da
        have Fd := am_ D9
        clear Da D9
        have Fe := am_ Dc
        have Ff := am_ Db
        clear Dc Db
        have Fg := am_ De
        have Fh := am_ Dd
        clear De Dd
        have Fi := am_ Dg
        have Fj := am_ Df
        clear Dg Df
        have Fk := am_ Di
        have Fl := am_ Dh
        clear Di Dh
        replace Ew := eq_true Ew
        replace Ex := eq_true Ex
        have ea_ := Option.some.inj (B2.symm.trans Bn)
        injection ea_ with ea_ en_ ec_
        subst ea_
        subst ec_
        clear en_
        have ea_ := Option.some.inj (B3.symm.trans Bo)
        injection ea_ with ea_ en_ ec_
        subst ea_
        subst ec_
        clear en_
        have ea_ := Option.some.inj (B4.symm.trans Bp)
        injection ea_ with ea_ en_ ec_
        subst ea_
        subst ec_
        clear en_
        have ea_ := Option.some.inj (B5.symm.trans Bq)
        injection ea_ with ea_ en_ ec_
        subst ea_
        subst ec_
        clear en_
        have ea_ := Option.some.inj (B6.symm.trans Br)
        injection ea_ with ea_ en_ ec_
        subst ea_
        subst ec_
        clear en_
        have ea_ := Option.some.inj (B7.symm.trans Bs)
        injection ea_ with ea_ en_ ec_
        subst ea_
        subst ec_
        clear en_
        have Ey : 0 ≤ (a2 : Int) := of_decide_eq_true (by first | (with_reducible assumption) | assumption)
        have Ez : a2 < (((rd_T44 B0 a1).f0).length : Int) := of_decide_eq_true (by first | (with_reducible assumption) | assumption)
        obtain ⟨Ge, G8, Bu⟩ := Kd.at_int Ef.out a2 Ey Ez
        cases G8
        replace Bu := (HB.out.cell (World.block_lt_of_cell? w _ Bu)).trans Bu
        replace Ey := eq_true Ey
        replace Ez := eq_true Ez
        go_wp2
        go_ret
        exact ⟨by first | rfl | (simp [*] <;> rfl), by repeat (first | (with_reducible first | exact HB.out | apply ba_ | apply bn_ | apply bd_ | refine bs_ ?_ Bt.out) | exact HB.out)⟩
       ·rw [if_neg Fa] at H
        exact absurd H (by simp)
      ·rw [if_neg F0] at H
       have F5 : decide (a2 < (((rd_T44 B0 a1).f0).length : Int)) = false := decide_eq_false F0
       clear F0
       obtain rfl := Option.some.inj H
       have Gf := cells_14 B1.out
       have Gg := frozen_14 B1.out
       have Bw : 0 ≤ (a1 : Int) := of_decide_eq_true (by first | (with_reducible assumption) | assumption)
       have Bx : a1 < (B0.length : Int) := of_decide_eq_true (by first | (with_reducible assumption) | assumption)
       obtain ⟨Eg, Ej, Ek, El, Em, En, Eo, Ep, Eq, Er, Es, Et, Eu, Ev, B2, B3, B4, B5, B6, B7, B9, Ba, Bb, Bc, Bd, Be, Bf, Bg, Bh, Bi, Bj, Bk⟩ := at_T44 Bv.out a1 Bw Bx
       cases Ev
       replace B2 := (HB.out.cell (World.block_lt_of_cell? w _ B2)).trans B2
       replace B3 := (HB.out.cell (World.block_lt_of_cell? w _ B3)).trans B3
       replace B4 := (HB.out.cell (World.block_lt_of_cell? w _ B4)).trans B4
       replace B5 := (HB.out.cell (World.block_lt_of_cell? w _ B5)).trans B5
       replace B6 := (HB.out.cell (World.block_lt_of_cell? w _ B6)).trans B6
       replace B7 := (HB.out.cell (World.block_lt_of_cell? w _ B7)).trans B7
       have E3 := am_ Ba
       have E4 := am_ B9
       clear Ba B9
       have E5 := am_ Bc
       have E6 := am_ Bb
       clear Bc Bb
       have E7 := am_ Be
       have E8 := am_ Bd
       clear Be Bd
       have E9 := am_ Bg
       have Ea := am_ Bf
       clear Bg Bf
       have Eb := am_ Bi
       have Ec := am_ Bh
       clear Bi Bh
       have Ed := am_ Bk
       have Ee := am_ Bj
       clear Bk Bj
       replace Bw := eq_true Bw
       replace Bx := eq_true Bx
       go_wp2
       go_ret
       exact ⟨by first | rfl | (simp [*] <;> rfl), by repeat (first | (with_reducible first | exact HB.out | apply ba_ | apply bn_ | apply bd_ | refine bs_ ?_ Bt.out) | exact HB.out)⟩
     ·rw [if_neg F9] at H
      exact absurd H (by simp)
    ·rw [if_neg F8] at H
     exact absurd H (by simp)
def r33_Delay.j0 : Nat → Int → Int → Int → Bool → Int → Int → Int → Int → Int → Int → Int → Int → Int → Int → List Int → List Int → List ByteArray → List (S44) → Option (Int)
 | 0, _, _, _, _, _, _, _, _, _, _, _, _, _, _, _, _, _, _ => none
 | k + 1, x1, x2, x3, Bf, B1, B4, B2, B5, B6, B7, B8, B9, Ba, Bb, Bc, Bd, Be, B0 => if Bf = true then (some 0) else ((r01_Clamp.f B1 0 13).bind fun B3 => (if 0 ≤ x1 then (if x1 < (B0.length : Int) then (if (wrap64 ((wrap64 (x2 * B3)) + x3)) < (((rd_T44 B0 x1).f1).length : Int) then (if 0 ≤ (wrap64 ((wrap64 (x2 * B3)) + x3)) then (some (rd ((rd_T44 B0 x1).f1) (wrap64 ((wrap64 (x2 * B3)) + x3)))) else (none)) else (some B2)) else (none)) else (none)))
def r33_Delay.f (k : Nat) (B4 B5 B6 B7 B8 B9 Ba Bb Bc Bd : Int) (B0 B2 : List Int) (B3 : List ByteArray) (B1 : List (S44)) (a1 a2 a3 : Int) : Option (Int) := if a1 < 0 then (r33_Delay.j0 k a1 a2 a3 true B4 B5 B6 B7 B8 B9 Ba Bb Bc Bd B0 B2 B3 B1) else (if a1 ≥ (B1.length : Int) then (r33_Delay.j0 k a1 a2 a3 true B4 B5 B6 B7 B8 B9 Ba Bb Bc Bd B0 B2 B3 B1) else ((r33_node.f B4 B5 B6 B7 B8 B9 Ba Bb Bc Bd B0 a2).bind fun Be => (if Be = true then ((r33_node.f B4 B5 B6 B7 B8 B9 Ba Bb Bc Bd B0 a3).bind fun Bf => (r33_Delay.j0 k a1 a2 a3 (!Bf) B4 B5 B6 B7 B8 B9 Ba Bb Bc Bd B0 B2 B3 B1)) else (r33_Delay.j0 k a1 a2 a3 true B4 B5 B6 B7 B8 B9 Ba Bb Bc Bd B0 B2 B3 B1))))
set_option maxHeartbeats 8000000 in
set_option maxRecDepth 100000 in
theorem r33_Delay.calls (k : Nat) (Bu Bx By Bz D0 D1 D2 D3 D4 D5 : Int) (Db : Option Addr) (Dc : Nat) (B8 : List Int) (Dd : Option Addr) (De : Nat) (Bl : List Int) (Df : Option Addr) (Dg : Nat) (Bm : List ByteArray) (Dh : Option Addr) (Di : Nat) (B1 : List (S44)) (a1 a2 a3 r : Int) (w : World) (Dx : Kd.C (Kd.int .i64) w Db B8.length B8) (Dy : B8.length ≤ Dc) (Dz : Kd.C (Kd.int .i64) w Dd Bl.length Bl) (E0 : Bl.length ≤ De) (E1 : Kd.C Kd.string w Df Bm.length Bm) (E2 : Bm.length ≤ Dg) (E3 : Kd.C k44 w Dh B1.length B1) (E4 : B1.length ≤ Di) (h : r33_Delay.f k Bu Bx By Bz D0 D1 D2 D3 D4 D5 B8 Bl Bm B1 a1 a2 a3 = some r) :
  Calls Try.prog 17 #[.agg #[.int .i64 Bu, .int .i64 Bx, .int .i64 By, .int .i64 Bz, .int .i64 D0, .int .i64 D1, .int .i64 D2, .int .i64 D3, .int .i64 D4, .int .i64 D5, .slice Db B8.length Dc, .slice Dd Bl.length De, .slice Df Bm.length Dg, .slice Dh B1.length Di], .int .i64 a1, .int .i64 a2, .int .i64 a3] w fun e w' => e = .returned (.int .i64 r) ∧ Below w.heap.size w w' := by
 have Gx := Try.underlying24
 have D6 := am_ Dx
 have D7 := am_ Dy
 clear Dx Dy
 have Fq := am_ Dz
 have Fr := am_ E0
 clear Dz E0
 have Fs := am_ E1
 have Ft := am_ E2
 clear E1 E2
 have D8 := am_ E3
 have Fu := am_ E4
 clear E3 E4
 have HB := am_ (Below.refl w.heap.size w)
 have H := h
 unfold r33_Delay.f at H
 clear h
 have Fv := am_ H
 clear H
 go_enter Try.func17, Try.ntmps17
 go_upto_region 1 with (first | ((with_reducible refine gate_load (t := 28) (x := .tmp 4) rfl ?_); refine lrg_ 28 (.tmp 4) Bv 28 (by exact B0.out) Try.underlying28 ?_) | ((with_reducible refine gate_dst (N := 4) rfl ?_); (try (refine gate_guard (by rfl) ?_; dsimp only)); refine bxe_ 4 28 #[.int .i64 Bu, .int .i64 Bx, .int .i64 By, .int .i64 Bz, .int .i64 D0, .int .i64 D1, .int .i64 D2, .int .i64 D3, .int .i64 D4, .int .i64 D5, .slice Db B8.length Dc, .slice Dd Bl.length De, .slice Df Bm.length Dg, .slice Dh B1.length Di] ?_; intro Bv hg w6 hbox hb; have B0 := am_ (hbox); have F3 := gwk_ HB hg; have Bt := F3; replace HB := bst_ HB hb; clear hb hbox hg))
 (try simp only [Act.put, zs_])
 go_cut [32] (fun v32 wc => ∃ (kq : Nat) (Dj : Bool), v32 = .bool Dj ∧ Aside0 (r33_Delay.j0 kq a1 a2 a3 Dj Bu Bx By Bz D0 D1 D2 D3 D4 D5 B8 Bl Bm B1 = some r) ∧ Aside0 (kq ≤ k) ∧ Aside0 (wc.heap[Bv]? = some (.cells #[.int .i64 Bu, .int .i64 Bx, .int .i64 By, .int .i64 Bz, .int .i64 D0, .int .i64 D1, .int .i64 D2, .int .i64 D3, .int .i64 D4, .int .i64 D5, (.slice Db B8.length Dc), (.slice Dd Bl.length De), (.slice Df Bm.length Dg), (.slice Dh B1.length Di)] 28 (0, 0))) ∧ Aside0 (Below w.heap.size w wc))
 case first =>
  have H := Fv.out
  clear Fv
  by_cases c7 : a1 < 0
  ·rw [if_pos c7] at H
   have Dw : decide (a1 < 0) = true := decide_eq_true c7
   clear c7
   (first | rw [Dw] | (simp only [i64_w, i32_w]; rw [Dw]) | skip)
   have H' := am_ H
   clear H
   go_wp2
   go_meet
   case rel => exact ⟨_, (true), (by first | rfl | (simp; done) | (simp [*]; done)), H', ⟨by first | omega | exact Nat.le_refl _⟩, ⟨by (with_reducible repeat (first | apply kn_ | apply kd_ | apply ka_)); exact B0.out⟩, ⟨by repeat (first | (with_reducible first | exact HB.out | apply ba_ | apply bn_ | apply bd_ | refine bs_ ?_ Bt.out) | exact HB.out)⟩⟩
  ·rw [if_neg c7] at H
   have Dw : decide (a1 < 0) = false := decide_eq_false c7
   clear c7
   (first | rw [Dw] | (simp only [i64_w, i32_w]; rw [Dw]) | skip)
   by_cases c8 : a1 ≥ (B1.length : Int)
   ·rw [if_pos c8] at H
    have F4 : decide ((B1.length : Int) ≤ a1) = true := decide_eq_true c8
    clear c8
    have H' := am_ H
    clear H
    have Fw := cells_14 B0.out
    have Fx := frozen_14 B0.out
    go_wp2
    go_meet
    case rel => exact ⟨_, (true), (by first | rfl | (simp; done) | (simp [*]; done)), H', ⟨by first | omega | exact Nat.le_refl _⟩, ⟨by (with_reducible repeat (first | apply kn_ | apply kd_ | apply ka_)); exact B0.out⟩, ⟨by repeat (first | (with_reducible first | exact HB.out | apply ba_ | apply bn_ | apply bd_ | refine bs_ ?_ Bt.out) | exact HB.out)⟩⟩
   ·rw [if_neg c8] at H
    have F4 : decide ((B1.length : Int) ≤ a1) = false := decide_eq_false c8
    clear c8
    obtain ⟨Fy, Gm, H⟩ := bes_ H
    try dsimp only at H
    by_cases F5 : Fy = true
    ·subst F5
     rw [if_pos rfl] at H
     obtain ⟨Fz, Gy, H⟩ := bes_ H
     try dsimp only at H
     have H' := am_ H
     clear H
     have F6 := cells_14 B0.out
     have F7 := frozen_14 B0.out
     go_wp2_with (first | ((with_reducible refine gate_load (t := 28) (x := .tmp 4) rfl ?_); refine lrg_ 28 (.tmp 4) Bv 28 (by exact B0.out) Try.underlying28 ?_) | (go_at_call 43; (with_reducible refine (r33_node.calls Bu Bx By Bz D0 D1 D2 D3 D4 D5 _ _ B8 a2 _ _ (Kd.C_below D6.out HB.out) D7.out Gm.out).mono ?_); rintro e w14 ⟨rfl, hb⟩; replace B0 := bkb_ B0 hb; replace HB := bst_ HB hb; (try clear hb); have G0 := cells_14 B0.out; have G1 := frozen_14 B0.out) | (go_at_call 43; (with_reducible refine (r33_node.calls Bu Bx By Bz D0 D1 D2 D3 D4 D5 _ _ B8 a3 _ _ (Kd.C_below D6.out HB.out) D7.out Gy.out).mono ?_); rintro e w16 ⟨rfl, hb⟩; replace B0 := bkb_ B0 hb; replace HB := bst_ HB hb; (try clear hb)))
     go_meet
     case rel => exact ⟨_, (!Fz), (by first | rfl | (simp; done) | (simp [*]; done)), H', ⟨by first | omega | exact Nat.le_refl _⟩, ⟨by (with_reducible repeat (first | apply kn_ | apply kd_ | apply ka_)); exact B0.out⟩, ⟨by repeat (first | (with_reducible first | exact HB.out | apply ba_ | apply bn_ | apply bd_ | refine bs_ ?_ Bt.out) | exact HB.out)⟩⟩
    ·replace F5 := Bool.eq_false_iff.mpr F5
     subst F5
     rw [if_neg (show ¬ (false = true) by decide)] at H
     have H' := am_ H
     clear H
     have F8 := cells_14 B0.out
     have F9 := frozen_14 B0.out
     go_wp2_with (first | ((with_reducible refine gate_load (t := 28) (x := .tmp 4) rfl ?_); refine lrg_ 28 (.tmp 4) Bv 28 (by exact B0.out) Try.underlying28 ?_) | (go_at_call 43; (with_reducible refine (r33_node.calls Bu Bx By Bz D0 D1 D2 D3 D4 D5 _ _ B8 a2 _ _ (Kd.C_below D6.out HB.out) D7.out Gm.out).mono ?_); rintro e w18 ⟨rfl, hb⟩; replace B0 := bkb_ B0 hb; replace HB := bst_ HB hb; (try clear hb)))
     go_meet
     case rel => exact ⟨_, (true), (by first | rfl | (simp; done) | (simp [*]; done)), H', ⟨by first | omega | exact Nat.le_refl _⟩, ⟨by (with_reducible repeat (first | apply kn_ | apply kd_ | apply ka_)); exact B0.out⟩, ⟨by repeat (first | (with_reducible first | exact HB.out | apply ba_ | apply bn_ | apply bd_ | refine bs_ ?_ Bt.out) | exact HB.out)⟩⟩
 case rest =>
  clear Fv
  try clear c1
  try clear p2
  try clear c7
  try clear Dw
  try clear c8
  try clear F4
  try clear F5
  try clear c17
  try clear F6
  try clear hcz15_0 hcz15_1 hcz15_2 hcz15_3 hcz15_4 hcz15_5 hcz15_6 hcz15_7 hcz15_8 hcz15_9 hcz15_10 hcz15_11 hcz15_12 hcz15_13
  try clear F8
  try clear Fw
  try clear F7
  try clear hfz15_0 hfz15_1 hfz15_2 hfz15_3 hfz15_4 hfz15_5 hfz15_6 hfz15_7 hfz15_8 hfz15_9 hfz15_10 hfz15_11 hfz15_12 hfz15_13
  try clear F9
  try clear Fx
  obtain ⟨kq, Dj, rfl, HA, Gz, B0, HB⟩ := hcut
  cases kq with
  | zero => exact absurd HA.out (by simp [r33_Delay.j0])
  | succ J0 =>
   have H := HA.out
   clear HA
   simp only [r33_Delay.j0] at H
   by_cases Fb : Dj = true
   ·subst Fb
    rw [if_pos rfl] at H
    obtain rfl := Option.some.inj H
    go_wp2
    go_ret
    exact ⟨by first | rfl | (simp [*] <;> rfl), by repeat (first | (with_reducible first | exact HB.out | apply ba_ | apply bn_ | apply bd_ | refine bs_ ?_ Bt.out) | exact HB.out)⟩
   ·replace Fb := Bool.eq_false_iff.mpr Fb
    subst Fb
    rw [if_neg (show ¬ (false = true) by decide)] at H
    obtain ⟨E5, G2, H⟩ := bes_ H
    try dsimp only at H
    by_cases Fc : 0 ≤ a1
    ·rw [if_pos Fc] at H
     have Gp : decide (0 ≤ a1) = true := decide_eq_true Fc
     clear Fc
     by_cases Fd : a1 < (B1.length : Int)
     ·rw [if_pos Fd] at H
      have Gq : decide (a1 < (B1.length : Int)) = true := decide_eq_true Fd
      clear Fd
      by_cases F2 : (wrap64 ((wrap64 (a2 * E5)) + a3)) < (((rd_T44 B1 a1).f1).length : Int)
      ·rw [if_pos F2] at H
       have Ej : decide ((wrap64 ((wrap64 (a2 * E5)) + a3)) < (((rd_T44 B1 a1).f1).length : Int)) = true := decide_eq_true F2
       clear F2
       obtain ⟨ji24, hji24⟩ : ∃ j_ : Int, (wrap64 ((wrap64 (a2 * E5)) + a3)) = j_ := ⟨_, rfl⟩
       replace H : (if 0 ≤ (ji24) then (some (rd ((rd_T44 B1 a1).f1) (ji24))) else (none)) = some r := by first | (rw [hji24] at H; exact H) | (simp only [hji24] at H ⊢; exact H)
       (try rw [hji24] at Ej)
       (try rw [hji24] at G2)
       have G3 : (IntKind.i64.wrap ((wrap64 (a2 * E5)) + a3)) = ji24 := (i64_w _).trans hji24
       by_cases Fe : 0 ≤ (ji24)
       ·rw [if_pos Fe] at H
        have Gr : decide (0 ≤ (ji24)) = true := decide_eq_true Fe
        clear Fe
        obtain rfl := Option.some.inj H
        have Gs := cells_14 B0.out
        have Gt := frozen_14 B0.out
        go_wp2_with (first | ((with_reducible refine gate_load (t := 28) (x := .tmp 4) rfl ?_); refine lrg_ 28 (.tmp 4) Bv 28 (by exact B0.out) Try.underlying28 ?_) | ((with_reducible refine gate_callee (f := 50) rfl ?_); refine gom_ (some 37) Try.func50 (r01_Clamp.calls Bu 0 13 _ _ G2.out) ?_; rintro e w27 ⟨rfl, hb⟩; refine ⟨_, rfl, ?_⟩; replace B0 := bkb_ B0 hb; replace HB := bst_ HB hb; (try clear hb); have G4 := cells_14 B0.out; have G5 := frozen_14 B0.out; have D9 : 0 ≤ (a1 : Int) := of_decide_eq_true (by first | (with_reducible assumption) | assumption); have Da : a1 < (B1.length : Int) := of_decide_eq_true (by first | (with_reducible assumption) | assumption); obtain ⟨Ek, El, Em, En, Eo, Ep, Eq, Er, Es, Et, Eu, Ev, Ew, Ex, B2, B3, B4, B5, B6, B7, B9, Ba, Bb, Bc, Bd, Be, Bf, Bg, Bh, Bi, Bj, Bk⟩ := at_T44 D8.out a1 D9 Da; cases Ex; replace B2 := (HB.out.cell (World.block_lt_of_cell? w _ B2)).trans B2; replace B3 := (HB.out.cell (World.block_lt_of_cell? w _ B3)).trans B3; replace B4 := (HB.out.cell (World.block_lt_of_cell? w _ B4)).trans B4; replace B5 := (HB.out.cell (World.block_lt_of_cell? w _ B5)).trans B5; replace B6 := (HB.out.cell (World.block_lt_of_cell? w _ B6)).trans B6; replace B7 := (HB.out.cell (World.block_lt_of_cell? w _ B7)).trans B7; have E6 := am_ Ba; have E7 := am_ B9; clear Ba B9; have E8 := am_ Bc; have E9 := am_ Bb; clear Bc Bb; have Ea := am_ Be; have Eb := am_ Bd; clear Be Bd; have Ec := am_ Bg; have Ed := am_ Bf; clear Bg Bf; have Ee := am_ Bi; have Ef := am_ Bh; clear Bi Bh; have Eg := am_ Bk; have Eh := am_ Bj; clear Bk Bj; replace D9 := eq_true D9; replace Da := eq_true Da; have Ey : 0 ≤ (a1 : Int) := of_decide_eq_true (by first | (with_reducible assumption) | assumption); have Ez : a1 < (B1.length : Int) := of_decide_eq_true (by first | (with_reducible assumption) | assumption); obtain ⟨Fa, G6, G7, G8, G9, Ga, Gb, Gc, Gd, Ge, Gf, Gg, Gh, Gi, Bn, Bo, Bp, Bq, Br, Bs, Dk, Dl, Dm, Dn, Do, Dp, Dq, Dr, Ds, Dt, Du, Dv⟩ := at_T44 D8.out a1 Ey Ez; obtain rfl : Ek = Fa := (by injection Gi); replace Bn := (HB.out.cell (World.block_lt_of_cell? w _ Bn)).trans Bn; replace Bo := (HB.out.cell (World.block_lt_of_cell? w _ Bo)).trans Bo; replace Bp := (HB.out.cell (World.block_lt_of_cell? w _ Bp)).trans Bp; replace Bq := (HB.out.cell (World.block_lt_of_cell? w _ Bq)).trans Bq; replace Br := (HB.out.cell (World.block_lt_of_cell? w _ Br)).trans Br; replace Bs := (HB.out.cell (World.block_lt_of_cell? w _ Bs)).trans Bs; have Ff := am_ Dl; have Fg := am_ Dk; clear Dl Dk; have Ei := am_ Dn; have Fh := am_ Dm; clear Dn Dm; have Fi := am_ Dp; have Fj := am_ Do; clear Dp Do; have Fk := am_ Dr; have Fl := am_ Dq; clear Dr Dq; have Fm := am_ Dt; have Fn := am_ Ds; clear Dt Ds; have Fo := am_ Dv; have Fp := am_ Du; clear Dv Du; replace Ey := eq_true Ey; replace Ez := eq_true Ez; have ea_ := Option.some.inj (B2.symm.trans Bn); injection ea_ with ea_ en_ ec_; subst ea_; subst ec_; clear en_; have ea_ := Option.some.inj (B3.symm.trans Bo); injection ea_ with ea_ en_ ec_; subst ea_; subst ec_; clear en_; have ea_ := Option.some.inj (B4.symm.trans Bp); injection ea_ with ea_ en_ ec_; subst ea_; subst ec_; clear en_; have ea_ := Option.some.inj (B5.symm.trans Bq); injection ea_ with ea_ en_ ec_; subst ea_; subst ec_; clear en_; have ea_ := Option.some.inj (B6.symm.trans Br); injection ea_ with ea_ en_ ec_; subst ea_; subst ec_; clear en_; have ea_ := Option.some.inj (B7.symm.trans Bs); injection ea_ with ea_ en_ ec_; subst ea_; subst ec_; clear en_; have F0 : 0 ≤ ((ji24) : Int) := of_decide_eq_true (by first | (with_reducible assumption) | assumption); have F1 : (ji24) < (((rd_T44 B1 a1).f1).length : Int) := of_decide_eq_true (by first | (with_reducible assumption) | assumption); obtain ⟨Gu, Gj, Bw⟩ := Kd.at_int Ei.out (ji24) F0 F1; cases Gj; replace Bw := (HB.out.cell (World.block_lt_of_cell? w _ Bw)).trans Bw; replace F0 := eq_true F0; replace F1 := eq_true F1))
        go_ret
        exact ⟨by first | rfl | (simp [errW_none, errW_some] <;> rfl) | (simp only [← hji24]; first | rfl | (simp [errW_none, errW_some] <;> rfl)) | (simp [*, errW_none, errW_some] <;> rfl), by repeat (first | (with_reducible first | exact HB.out | apply ba_ | apply bn_ | apply bd_ | refine bs_ ?_ Bt.out) | exact HB.out)⟩
       ·rw [if_neg Fe] at H
        exact absurd H (by simp)
      ·rw [if_neg F2] at H
       have Ej : decide ((wrap64 ((wrap64 (a2 * E5)) + a3)) < (((rd_T44 B1 a1).f1).length : Int)) = false := decide_eq_false F2
       clear F2
       obtain rfl := Option.some.inj H
       have Gv := cells_14 B0.out
       have Gw := frozen_14 B0.out
       go_wp2_with (first | ((with_reducible refine gate_load (t := 28) (x := .tmp 4) rfl ?_); refine lrg_ 28 (.tmp 4) Bv 28 (by exact B0.out) Try.underlying28 ?_) | ((with_reducible refine gate_callee (f := 50) rfl ?_); refine gom_ (some 37) Try.func50 (r01_Clamp.calls Bu 0 13 _ _ G2.out) ?_; rintro e w30 ⟨rfl, hb⟩; refine ⟨_, rfl, ?_⟩; replace B0 := bkb_ B0 hb; replace HB := bst_ HB hb; (try clear hb); have Gk := cells_14 B0.out; have Gl := frozen_14 B0.out; have D9 : 0 ≤ (a1 : Int) := of_decide_eq_true (by first | (with_reducible assumption) | assumption); have Da : a1 < (B1.length : Int) := of_decide_eq_true (by first | (with_reducible assumption) | assumption); obtain ⟨Ek, El, Em, En, Eo, Ep, Eq, Er, Es, Et, Eu, Ev, Ew, Ex, B2, B3, B4, B5, B6, B7, B9, Ba, Bb, Bc, Bd, Be, Bf, Bg, Bh, Bi, Bj, Bk⟩ := at_T44 D8.out a1 D9 Da; cases Ex; replace B2 := (HB.out.cell (World.block_lt_of_cell? w _ B2)).trans B2; replace B3 := (HB.out.cell (World.block_lt_of_cell? w _ B3)).trans B3; replace B4 := (HB.out.cell (World.block_lt_of_cell? w _ B4)).trans B4; replace B5 := (HB.out.cell (World.block_lt_of_cell? w _ B5)).trans B5; replace B6 := (HB.out.cell (World.block_lt_of_cell? w _ B6)).trans B6; replace B7 := (HB.out.cell (World.block_lt_of_cell? w _ B7)).trans B7; have E6 := am_ Ba; have E7 := am_ B9; clear Ba B9; have E8 := am_ Bc; have E9 := am_ Bb; clear Bc Bb; have Ea := am_ Be; have Eb := am_ Bd; clear Be Bd; have Ec := am_ Bg; have Ed := am_ Bf; clear Bg Bf; have Ee := am_ Bi; have Ef := am_ Bh; clear Bi Bh; have Eg := am_ Bk; have Eh := am_ Bj; clear Bk Bj; replace D9 := eq_true D9; replace Da := eq_true Da))
       go_ret
       exact ⟨by first | rfl | (simp [*] <;> rfl), by repeat (first | (with_reducible first | exact HB.out | apply ba_ | apply bn_ | apply bd_ | refine bs_ ?_ Bt.out) | exact HB.out)⟩
     ·rw [if_neg Fd] at H
      exact absurd H (by simp)
    ·rw [if_neg Fc] at H
     exact absurd H (by simp)
end Go.Proofs.Ythdoghhmooodjaa.Gn
