import Derived.Test.YtdnccjlfongdeaaZRoundFitsGn0
import Derived.Test.YtdnccjlfongdeaaZRoundFitsGn2
import Derived.Test.YtdnccjlfongdeaaZRoundFitsGn24
import Derived.Test.YtdnccjlfongdeaaZRoundFitsGn26
import Derived.Test.YtdnccjlfongdeaaZRoundFitsGn36
import Derived.Test.YtdnccjlfongdeaaZRoundFitsGn37
import Derived.Test.YtdnccjlfongdeaaZRoundFitsGn38
namespace Go.Proofs.Ytdnccjlfongdeaa.Gn
open Go.RowKit Go.Proofs.YtdnccjlfongdeaaW.PrintWords Go.Proofs.YtdnccjlfongdeaaW.PrintLast Go.Proofs.YtdnccjlfongdeaaW.PrintMore
attribute [local go_sem] max2_int min2_int max_two min_two max_three min_three max_four min_four   -- for this text's walks alone
set_option linter.unusedVariables false
set_option linter.unusedSimpArgs false
mutual
def r38_Fits.j0 : Nat → List Int → Bool → Int → Int → Int → Int → Int → Int → Int → Int → Int → Int → List Int → Int → ByteArray → List ByteArray → List (List (S45)) → Option (Int)
 | 0, _, _, _, _, _, _, _, _, _, _, _, _, _, _, _, _, _ => none
 | k + 1, x1, Bj, B0, B2, B3, B4, B5, B6, B7, B8, B9, Ba, Bb, Bd, Bc, Be, B1 => if Bj = true then (some 2) else ((r38_members.f k B0 B2 B3 B4 B5 B6 B7 B8 B9 Ba Bb x1 Bc).bind fun Bg => (if Bg = true then ((r38_sizes.f k B0 B2 B3 B4 B5 B6 B7 B8 B9 Ba Bb x1 Bd Bc Be B1).bind fun Bh => (if Bh = true then (r38_Fits.l0 k x1 0 B0 B2 B3 B4 B5 B6 B7 B8 B9 Ba Bb Bd Bc Be B1) else (some 6))) else (some 7)))
def r38_Fits.l0 : Nat → List Int → Int → Int → Int → Int → Int → Int → Int → Int → Int → Int → Int → List Int → Int → ByteArray → List ByteArray → List (List (S45)) → Option (Int)
 | 0, _, _, _, _, _, _, _, _, _, _, _, _, _, _, _, _, _ => none
 | k + 1, x1, x7, B0, B2, B3, B4, B5, B6, B7, B8, B9, Ba, Bb, Bd, Bc, Be, B1 => if x7 < B0 then (if 0 ≤ x7 then (if x7 < (B1.length : Int) then ((r38_one.f k B0 B2 B3 B4 B5 B6 B7 B8 B9 Ba Bb x1 Bd Bc Be B1 (rd_L3 B1 x7)).bind fun Bf => ((r14_In.f k x1 x7).bind fun Bi => (if Bi = true then (r38_Fits.l0 k x1 (wrap64 (x7 + 1)) B0 B2 B3 B4 B5 B6 B7 B8 B9 Ba Bb Bd Bc Be B1) else (if Bf = 0 then (r38_Fits.l0 k x1 (wrap64 (x7 + 1)) B0 B2 B3 B4 B5 B6 B7 B8 B9 Ba Bb Bd Bc Be B1) else (some Bf))))) else (none)) else (none)) else (some 0)
end
def r38_Fits.f (k : Nat) (B2 B3 B4 B5 B6 B7 B8 B9 B1 Ba : Int) (B0 l1 : List Int) (Bb : Int) (Bc : ByteArray) (Bd : List ByteArray) (Be : List (List (S45))) : Option (Int) := (r03_Plain.f k B2 B3 B4 B5 B6 B7 B8 B9 B1 Ba B0).bind fun Bf => (if Bf = 0 then (if Bb < 0 then (r38_Fits.j0 k l1 true B2 B3 B4 B5 B6 B7 B8 B9 B1 Ba B0 Bb Bc Bd Be) else (r38_Fits.j0 k l1 (decide (Bb ≥ B1)) B2 B3 B4 B5 B6 B7 B8 B9 B1 Ba B0 Bb Bc Bd Be)) else ((r03_Plain.f k B2 B3 B4 B5 B6 B7 B8 B9 B1 Ba B0).bind fun Bg => (some Bg)))
def r38_Fits.T12 : Bool × List (List Nat × List Nat) := (true, [([], []), ([], []), ([], []), ([], []), ([3], [3]), ([], []), ([4, 5], [4, 5]), ([6], [6]), ([0, 1, 2, 7], [0, 1, 2, 7]), ([8, 8, 0, 1, 2, 3, 4, 5, 6, 7, 8], [8])])
def r38_Fits.B12 : List Nat := [0, 0, 0, 0, 8, 0, 56, 120, 255, 511]
theorem r38_Fits.tab12 : rtab .any (opsOf Try.f15 12) = r38_Fits.T12 := by kernel_rfl
theorem r38_Fits.bits12 : waitsOk r38_Fits.T12.2 r38_Fits.B12 = true := by kernel_rfl
set_option maxHeartbeats 8000000 in
set_option maxRecDepth 100000 in
theorem r38_Fits.calls (k : Nat) (Bb Bg Bh Bi Bj Bk Bl Bm Bc Bn : Int) (Bv : Option Addr) (Bw : Nat) (B6 : List Int) (A1 : Option Addr) (c1 : Nat) (l1 : List Int) (Bd : Int) (Bo : ByteArray) (D0 : Option Addr) (D1 : Nat) (Bp : List ByteArray) (D7 : Option Addr) (D2 : Nat) (B9 : List (List (S45))) (r : Int) (w : World) (Dl : Kd.C (Kd.int .i64) w Bv B6.length B6) (Dm : B6.length ≤ Bw) (Fe : Kd.C (Kd.int .i64) w A1 l1.length l1) (Ff : l1.length ≤ c1) (E2 : Kd.C Kd.string w D0 Bp.length Bp) (E3 : Bp.length ≤ D1) (E4 : Kd.C (Kd.slice 45 k45) w D7 B9.length B9) (E5 : B9.length ≤ D2) (h : r38_Fits.f k Bb Bg Bh Bi Bj Bk Bl Bm Bc Bn B6 l1 Bd Bo Bp B9 = some r) :
  Calls Try.prog 15 #[.agg #[.int .i64 Bb, .int .i64 Bg, .int .i64 Bh, .int .i64 Bi, .int .i64 Bj, .int .i64 Bk, .int .i64 Bl, .int .i64 Bm, .int .i64 Bc, .int .i64 Bn, .slice Bv B6.length Bw], .slice A1 l1.length c1, .agg #[.int .i64 Bd, .string Bo, .slice D0 Bp.length D1, .slice D7 B9.length D2]] w fun e w' => e = .returned (.int .i64 r) ∧ Below w.heap.size w w' := by
 have Gh := Try.underlying24
 have Gi := Try.underlying32
 have Be := am_ Dl
 have Bf := am_ Dm
 clear Dl Dm
 have Dn := am_ Fe
 have Do := am_ Ff
 clear Fe Ff
 have D8 := am_ E2
 have D9 := am_ E3
 clear E2 E3
 have By := am_ E4
 have Da := am_ E5
 clear E4 E5
 have HB := am_ (Below.refl w.heap.size w)
 have H := h
 unfold r38_Fits.f at H
 clear h
 obtain ⟨Dp, A4, H⟩ := bes_ H
 try dsimp only at H
 by_cases c5 : Dp = 0
 ·rw [if_pos c5] at H
  have Ea : (Dp == 0) = true := beq_iff_eq.mpr c5
  have Eb : (Dp != 0) = false := bne_eq_false_iff_eq.mpr c5
  clear c5
  have F6 := am_ H
  clear H
  go_enter Try.func15, Try.ntmps15
  go_upto_region 3 with (first | ((with_reducible refine gate_dst (N := 3) rfl ?_); refine bxe_ 3 24 #[.int .i64 Bb, .int .i64 Bg, .int .i64 Bh, .int .i64 Bi, .int .i64 Bj, .int .i64 Bk, .int .i64 Bl, .int .i64 Bm, .int .i64 Bc, .int .i64 Bn, .slice Bv B6.length Bw] ?_; intro B2 hg w7 hbox hb; have B0 := am_ (hbox); have Dq := gwk_ HB hg; have Bt := Dq; replace HB := bst_ HB hb; clear hb hbox hg) | ((with_reducible refine gate_dst (N := 5) rfl ?_); refine bxe_ 5 32 #[.int .i64 Bd, .string Bo, .slice D0 Bp.length D1, .slice D7 B9.length D2] ?_; intro B5 hg w8 hbox hb; have B1 := am_ (hbox); have Dr := gwk_ HB hg; have Bu := Dr; replace HB := bst_ HB hb; have B3 := nbk_ B0 hg; have B7 := nbs_ B3; replace B0 := bkb_ B0 hb; clear hb hbox hg; have Gj := B3.out; have Gk := B7.out; have E6 := cells_11 B0.out; have E7 := frozen_11 B0.out) | ((with_reducible refine gate_callee (f := 16) rfl ?_); refine gom_ (some 10) Try.func16 (r03_Plain.calls k Bb Bg Bh Bi Bj Bk Bl Bm Bc Bn _ _ B6 _ _ (Kd.C_below Be.out HB.out) Bf.out A4.out) ?_; rintro e w11 ⟨rfl, hb⟩; refine ⟨_, rfl, ?_⟩; replace B0 := bkb_ B0 hb; replace B1 := bkb_ B1 hb; replace HB := bst_ HB hb; (try clear hb)))
  (try simp only [Act.put, zs_])
  go_cut [23] (fun v23 wc => ∃ (kq : Nat) (Dc : Bool), v23 = .bool Dc ∧ Aside0 (r38_Fits.j0 kq l1 Dc Bb Bg Bh Bi Bj Bk Bl Bm Bc Bn B6 Bd Bo Bp B9 = some r) ∧ Aside0 (kq ≤ k) ∧ Aside0 (wc.heap[B2]? = some (.cells #[.int .i64 Bb, .int .i64 Bg, .int .i64 Bh, .int .i64 Bi, .int .i64 Bj, .int .i64 Bk, .int .i64 Bl, .int .i64 Bm, .int .i64 Bc, .int .i64 Bn, (.slice Bv B6.length Bw)] 24 (0, 0))) ∧ Aside0 (wc.heap[B5]? = some (.cells #[.int .i64 Bd, .string Bo, (.slice D0 Bp.length D1), (.slice D7 B9.length D2)] 32 (0, 0))) ∧ Aside0 (Below w.heap.size w wc))
  case first =>
   have H := F6.out
   clear F6
   by_cases Ec : Bd < 0
   rw [if_pos Ec] at H
   have Db : decide (Bd < 0) = true := decide_eq_true Ec
   rotate_left
   rw [if_neg Ec] at H
   have Db : decide (Bd < 0) = false := decide_eq_false Ec
   rotate_left
   all_goals
    clear Ec
    (first | rw [Db] | (simp only [i64_w, i32_w]; rw [Db]) | skip)
    have H' := am_ H
    clear H
    have Fg := B7.out
    have Fh := B3.out
    have Dd : w11.cell? ⟨B5, 0, none⟩ = some (.int .i64 Bd) := (blk_cell B1.out 0).trans rfl
    have De : w11.cell? ⟨B5, 1, none⟩ = some (.string Bo) := (blk_cell B1.out 1).trans rfl
    have Df : w11.cell? ⟨B5, 2, none⟩ = some (.slice D0 Bp.length D1) := (blk_cell B1.out 2).trans rfl
    have Dg : w11.cell? ⟨B5, 3, none⟩ = some (.slice D7 B9.length D2) := (blk_cell B1.out 3).trans rfl
    have Dh := blk_frozen B1.out 0
    have Di := blk_frozen B1.out 1
    have Dj := blk_frozen B1.out 2
    have Dk := blk_frozen B1.out 3
   ·go_wp2
    go_meet
    case rel => exact ⟨_, (true), (by first | rfl | (simp; done) | (simp [*]; done)), H', ⟨by first | omega | exact Nat.le_refl _⟩, ⟨by (with_reducible repeat (first | apply kn_ | apply kd_ | apply ka_)); exact B0.out⟩, ⟨by (with_reducible repeat (first | apply kn_ | apply kd_ | apply ka_)); exact B1.out⟩, ⟨by repeat (first | (with_reducible first | exact HB.out | apply ba_ | apply bn_ | apply bd_ | refine bs_ ?_ Bt.out | refine bs_ ?_ Bu.out) | exact HB.out)⟩⟩
   ·have E8 := cells_11 B0.out
    have E9 := frozen_11 B0.out
    go_wp2
    go_meet
    case rel => exact ⟨_, (decide (Bd ≥ Bc)), (by first | rfl | (simp; done) | (simp [*]; done)), H', ⟨by first | omega | exact Nat.le_refl _⟩, ⟨by (with_reducible repeat (first | apply kn_ | apply kd_ | apply ka_)); exact B0.out⟩, ⟨by (with_reducible repeat (first | apply kn_ | apply kd_ | apply ka_)); exact B1.out⟩, ⟨by repeat (first | (with_reducible first | exact HB.out | apply ba_ | apply bn_ | apply bd_ | refine bs_ ?_ Bt.out | refine bs_ ?_ Bu.out) | exact HB.out)⟩⟩
  case rest =>
   clear F6
   try clear c1
   try clear c2
   try clear p2
   try clear c5
   try clear Ea
   try clear Eb
   try clear c9
   try clear Ec
   try clear Db
   try clear c13
   try clear c15
   try clear c16
   try clear E6
   try clear Dd De Df Dg
   try clear hcz16_0 hcz16_1 hcz16_2 hcz16_3
   try clear E8
   try clear E7
   try clear Dh Di Dj Dk
   try clear hfz16_0 hfz16_1 hfz16_2 hfz16_3
   try clear E9
   obtain ⟨kq, Dc, rfl, HA, Et, B0, B1, HB⟩ := hcut
   cases kq with
   | zero => exact absurd HA.out (by simp [r38_Fits.j0])
   | succ Ed =>
    have H := HA.out
    clear HA
    simp only [r38_Fits.j0] at H
    by_cases Eg : Dc = true
    ·subst Eg
     rw [if_pos rfl] at H
     obtain rfl := Option.some.inj H
     go_wp2
     go_ret
     exact ⟨by first | rfl | (simp [*] <;> rfl), by repeat (first | (with_reducible first | exact HB.out | apply ba_ | apply bn_ | apply bd_ | refine bs_ ?_ Bt.out | refine bs_ ?_ Bu.out) | exact HB.out)⟩
    ·replace Eg := Bool.eq_false_iff.mpr Eg
     subst Eg
     rw [if_neg (show ¬ (false = true) by decide)] at H
     obtain ⟨F7, F8, H⟩ := bes_ H
     try dsimp only at H
     by_cases Eh : F7 = true
     subst Eh
     rw [if_pos rfl] at H
     obtain ⟨F9, Fi, H⟩ := bes_ H
     try dsimp only at H
     by_cases Ei : F9 = true
     ·subst Ei
      rw [if_pos rfl] at H
      have H' := am_ H
      clear H
      have Fj := B3.out
      have Fk := B7.out
      have Ej := cells_11 B0.out
      have Ek := frozen_11 B0.out
      have Du : wc.cell? ⟨B5, 0, none⟩ = some (.int .i64 Bd) := (blk_cell B1.out 0).trans rfl
      have Dv : wc.cell? ⟨B5, 1, none⟩ = some (.string Bo) := (blk_cell B1.out 1).trans rfl
      have Dw : wc.cell? ⟨B5, 2, none⟩ = some (.slice D0 Bp.length D1) := (blk_cell B1.out 2).trans rfl
      have Dx : wc.cell? ⟨B5, 3, none⟩ = some (.slice D7 B9.length D2) := (blk_cell B1.out 3).trans rfl
      have Dy := blk_frozen B1.out 0
      have Dz := blk_frozen B1.out 1
      have E0 := blk_frozen B1.out 2
      have E1 := blk_frozen B1.out 3
      go_wp2_with (first | ((with_reducible refine gate_callee (f := 38) rfl ?_); refine gom_ (some 28) Try.func38 (r38_members.calls Ed Bb Bg Bh Bi Bj Bk Bl Bm Bc Bn _ _ B6 _ _ l1 Bo _ _ (Kd.C_below Be.out HB.out) Bf.out (Kd.C_below Dn.out HB.out) Do.out F8.out) ?_; rintro e w26 ⟨rfl, hb⟩; refine ⟨_, rfl, ?_⟩; replace B0 := bkb_ B0 hb; replace B1 := bkb_ B1 hb; replace HB := bst_ HB hb; (try clear hb); have El := cells_11 B0.out; have Em := frozen_11 B0.out; have En := cells_4 B1.out; have Eo := frozen_4 B1.out) | ((with_reducible refine gate_callee (f := 39) rfl ?_); refine gom_ (some 33) Try.func39 (r38_sizes.calls Ed Bb Bg Bh Bi Bj Bk Bl Bm Bc Bn _ _ B6 _ _ l1 Bd Bo _ _ Bp _ _ B9 _ _ (Kd.C_below Be.out HB.out) Bf.out (Kd.C_below Dn.out HB.out) Do.out (Kd.C_below D8.out HB.out) D9.out (Kd.C_below By.out HB.out) Da.out Fi.out) ?_; rintro e w29 ⟨rfl, hb⟩; refine ⟨_, rfl, ?_⟩; replace B0 := bkb_ B0 hb; replace B1 := bkb_ B1 hb; replace HB := bst_ HB hb; (try clear hb)))
      go_loopg [7] Ed (fun kq v7 w' => ∃ (Ba : Int), v7 = .int .i64 Ba ∧ Aside0 (r38_Fits.l0 kq l1 Ba Bb Bg Bh Bi Bj Bk Bl Bm Bc Bn B6 Bd Bo Bp B9 = some r) ∧ Aside0 (kq ≤ Ed) ∧ Aside0 (w'.heap[B2]? = some (.cells #[.int .i64 Bb, .int .i64 Bg, .int .i64 Bh, .int .i64 Bi, .int .i64 Bj, .int .i64 Bk, .int .i64 Bl, .int .i64 Bm, .int .i64 Bc, .int .i64 Bn, (.slice Bv B6.length Bw)] 24 (0, 0))) ∧ Aside0 (w'.heap[B5]? = some (.cells #[.int .i64 Bd, .string Bo, (.slice D0 Bp.length D1), (.slice D7 B9.length D2)] 32 (0, 0))) ∧ Aside0 (Below w.heap.size w w'))
      case atStart => exact ⟨(0), (by first | rfl | (simp; done) | (simp [*]; done)), H', ⟨Nat.le_refl _⟩, ⟨by (with_reducible repeat (first | apply kn_ | apply kd_ | apply ka_)); exact B0.out⟩, ⟨by (with_reducible repeat (first | apply kn_ | apply kd_ | apply ka_)); exact B1.out⟩, ⟨by repeat (first | (with_reducible first | exact HB.out | apply ba_ | apply bn_ | apply bd_ | refine bs_ ?_ Bt.out | refine bs_ ?_ Bu.out) | exact HB.out)⟩⟩
      case round =>
       clear H'
       try clear c1
       try clear c2
       try clear p2
       try clear c3
       try clear c5
       try clear Ea
       try clear Eb
       try clear c9
       try clear Ec
       try clear Db
       try clear c13
       try clear c15
       try clear c16
       try clear Eg
       try clear Eh
       try clear Ei
       try clear c23
       try clear E6
       try clear Dd De Df Dg
       try clear hcz16_0 hcz16_1 hcz16_2 hcz16_3
       try clear E8
       try clear Ej
       try clear Du Dv Dw Dx
       try clear El
       try clear En
       try clear E7
       try clear Dh Di Dj Dk
       try clear hfz16_0 hfz16_1 hfz16_2 hfz16_3
       try clear E9
       try clear Ek
       try clear Dy Dz E0 E1
       try clear Em
       try clear Eo
       try clear p2
       obtain ⟨Ba, rfl, HA, Eu, B0, B1, HB⟩ := hrel
       cases gk with
       | zero => exact absurd HA.out (by simp [r38_Fits.l0])
       | succ k2 =>
        have H := HA.out
        clear HA
        simp only [r38_Fits.l0] at H
        by_cases Ef : Ba < Bb
        ·rw [if_pos Ef] at H
         have Ep : decide (Ba < Bb) = true := decide_eq_true Ef
         clear Ef
         by_cases Ev : 0 ≤ Ba
         ·rw [if_pos Ev] at H
          have Fl : decide (0 ≤ Ba) = true := decide_eq_true Ev
          clear Ev
          by_cases Ew : Ba < (B9.length : Int)
          ·rw [if_pos Ew] at H
           have Fm : decide (Ba < (B9.length : Int)) = true := decide_eq_true Ew
           clear Ew
           obtain ⟨Ds, Fa, H⟩ := bes_ H
           try dsimp only at H
           obtain ⟨Fb, Fc, H⟩ := bes_ H
           try dsimp only at H
           by_cases Ex : Fb = true
           ·subst Ex
            rw [if_pos rfl] at H
            have H' := am_ H
            clear H
            have Fn := B3.out
            have Fo := B7.out
            have Fp := cells_11 B0.out
            have Fq := frozen_11 B0.out
            try go_wp2
            replace B0 := am_ (blk_drew B0.out)
            replace B1 := am_ (blk_drew B1.out)
            replace HB := am_ (below_drew1 HB.out)
            have D3 : 0 ≤ (Ba : Int) := of_decide_eq_true (by first | (with_reducible assumption) | assumption)
            have D4 : Ba < (B9.length : Int) := of_decide_eq_true (by first | (with_reducible assumption) | assumption)
            obtain ⟨Bz, D5, D6, Dt, B4, Bq, Br⟩ := at_L3 By.out Ba D3 D4
            have B8 := B4
            cases Dt
            replace B4 := (HB.out.cell (World.block_lt_of_cell? w _ B4)).trans B4
            have Bs := am_ Br
            have Bx := am_ Bq
            clear Br Bq
            replace D3 := eq_true D3
            replace D4 := eq_true D4
            refine start_ (n := 10) (S := fun w' => ce_ w' B2 0 (.int .i64 Bb) ∧ ce_ w' B2 1 (.int .i64 Bg) ∧ ce_ w' B2 2 (.int .i64 Bh) ∧ ce_ w' B2 3 (.int .i64 Bi) ∧ ce_ w' B2 4 (.int .i64 Bj) ∧ ce_ w' B2 5 (.int .i64 Bk) ∧ ce_ w' B2 6 (.int .i64 Bl) ∧ ce_ w' B2 7 (.int .i64 Bm) ∧ ce_ w' B2 8 (.int .i64 Bc) ∧ ce_ w' B2 9 (.int .i64 Bn) ∧ ce_ w' B2 10 (.slice Bv B6.length Bw) ∧ ce_ w' B5 0 (.int .i64 Bd) ∧ ce_ w' B5 1 (.string Bo) ∧ ce_ w' B5 2 (.slice D0 Bp.length D1) ∧ ce_ w' B5 3 (.slice (some Bz) B9.length D2) ∧ w'.cell? (Bz.add (Ba).toNat) = some (.slice D5 (rd_L3 B9 Ba).length D6)) (ds := []) #[false, false, false, false, false, false, false, false, false, false] (by kernel_rfl) rfl rfl ⟨(blk_cell B0.out 0).trans rfl, (blk_cell B0.out 1).trans rfl, (blk_cell B0.out 2).trans rfl, (blk_cell B0.out 3).trans rfl, (blk_cell B0.out 4).trans rfl, (blk_cell B0.out 5).trans rfl, (blk_cell B0.out 6).trans rfl, (blk_cell B0.out 7).trans rfl, (blk_cell B0.out 8).trans rfl, (blk_cell B0.out 9).trans rfl, (blk_cell B0.out 10).trans rfl, (blk_cell B1.out 0).trans rfl, (blk_cell B1.out 1).trans rfl, (blk_cell B1.out 2).trans rfl, (blk_cell B1.out 3).trans rfl, ((HB.out.cell (World.block_lt_of_cell? w _ B8)).trans B8)⟩ (fun hHeld => ?_); refine with_tabW r38_Fits.tab12 r38_Fits.bits12 (fun HT_ HW_ => ?_)
            generalize wr.drew = w38 at B0 B1 HB Bs B4 hHeld ⊢
            refine pur_ 1 (some 42) rfl rfl (any_of HT_.out (by kernel_rfl)) ?_
            refine pur_ 3 (some 44) rfl rfl (any_of HT_.out (by kernel_rfl)) ?_
            refine pur_ 5 (some 46) rfl rfl (any_of HT_.out (by kernel_rfl)) ?_
            refine tak_ 0 (some 41) rfl rfl (take_ofW HT_.out HW_.out (by kernel_rfl)) hHeld ?_ (by rintro w' ⟨s0, s1, s2, s3, s4, s5, s6, s7, s8, s9, s10, s11, s12, s13, s14, s15⟩; go_simp; with_reducible rfl)
            refine tak_ 2 (some 43) rfl rfl (take_ofW HT_.out HW_.out (by kernel_rfl)) hHeld ?_ (by rintro w' ⟨s0, s1, s2, s3, s4, s5, s6, s7, s8, s9, s10, s11, s12, s13, s14, s15⟩; go_simp; with_reducible rfl)
            refine tak_ 4 (some 45) rfl rfl (take_ofW HT_.out HW_.out (by kernel_rfl)) hHeld ?_ (by rintro w' ⟨s0, s1, s2, s3, s4, s5, s6, s7, s8, s9, s10, s11, s12, s13, s14, s15⟩; go_simp; with_reducible rfl)
            refine pur_ 6 (some 47) rfl rfl (any_of HT_.out (by kernel_rfl)) ?_
            refine tak_ 7 (some 48) rfl rfl (take_ofW HT_.out HW_.out (by kernel_rfl)) hHeld ?_ (by rintro w' ⟨s0, s1, s2, s3, s4, s5, s6, s7, s8, s9, s10, s11, s12, s13, s14, s15⟩; go_simp; with_reducible rfl)
            refine oon_ 8 (some 49) rfl rfl (one_of HT_.out (by kernel_rfl)) (fun K hK => ?_)
            refine gos_ Try.func40 (r38_one.calls k2 Bb Bg Bh Bi Bj Bk Bl Bm Bc Bn _ _ B6 _ _ l1 Bd Bo _ _ Bp _ _ B9 _ _ (rd_L3 B9 Ba) _ _ (Kd.C_below Be.out HB.out) Bf.out (Kd.C_below Dn.out HB.out) Do.out (Kd.C_below D8.out HB.out) D9.out (Kd.C_below By.out HB.out) Da.out ?side9 ?side10 Fa.out) ?_
            (case side9 => exact (Kd.C_below Bs.out HB.out))
            (case side10 => exact Bx.out)
            rintro e w39 ⟨rfl, hb⟩
            refine ⟨_, rfl, ?_⟩
            replace B0 := bkb_ B0 hb
            replace B1 := bkb_ B1 hb
            replace HB := bst_ HB hb
            (try clear hb)
            (try clear hb2)
            (try clear hk)
            (try clear hi)
            refine hK.out _ _ (and_11 B0.out ⟨(blk_cell B1.out 0).trans rfl, (blk_cell B1.out 1).trans rfl, (blk_cell B1.out 2).trans rfl, (blk_cell B1.out 3).trans rfl, ((HB.out.cell (World.block_lt_of_cell? w _ B8)).trans B8)⟩) (fun hHeld => ?_)
            clear hK K
            refine nor_ 49 ?_
            refine pur_ 9 (some 8) rfl rfl (any_of HT_.out (by kernel_rfl)) ?_
            refine done_ (done_of HT_.out (by kernel_rfl)) ?_
            try go_wp2_with (first | ((with_reducible refine gate_callee (f := 28) rfl ?_); refine gom_ (some 52) Try.func28 (r14_In.calls k2 _ _ l1 Ba _ _ (Kd.C_below Dn.out HB.out) Do.out Fc.out) ?_; rintro e w' ⟨rfl, ⟨nd, rfl⟩⟩; refine ⟨_, rfl, ?_⟩))
            go_roundg k2
            case measure => have := Et.out; have := Eu.out; omega
            case rel => exact ⟨(wrap64 (Ba + 1)), (by first | rfl | (simp; done) | (simp [*]; done)), H', ⟨by have := Et.out; have := Eu.out; omega⟩, ⟨by (with_reducible repeat (first | apply kn_ | apply kd_ | apply ka_)); exact B0.out⟩, ⟨by (with_reducible repeat (first | apply kn_ | apply kd_ | apply ka_)); exact B1.out⟩, ⟨by repeat (first | (with_reducible first | exact HB.out | apply ba_ | apply bn_ | apply bd_ | refine bs_ ?_ Bt.out | refine bs_ ?_ Bu.out) | exact HB.out)⟩⟩
           ·replace Ex := Bool.eq_false_iff.mpr Ex
            subst Ex
            rw [if_neg (show ¬ (false = true) by decide)] at H
            by_cases Ee : Ds = 0
            ·rw [if_pos Ee] at H
             have Eq : (Ds == 0) = true := beq_iff_eq.mpr Ee
             have Er : (Ds != 0) = false := bne_eq_false_iff_eq.mpr Ee
             clear Ee
             have H' := am_ H
             clear H
             have Fr := B3.out
             have Fs := B7.out
             have Ft := cells_11 B0.out
             have Fu := frozen_11 B0.out
             try go_wp2
             replace B0 := am_ (blk_drew B0.out)
             replace B1 := am_ (blk_drew B1.out)
             replace HB := am_ (below_drew1 HB.out)
             have D3 : 0 ≤ (Ba : Int) := of_decide_eq_true (by first | (with_reducible assumption) | assumption)
             have D4 : Ba < (B9.length : Int) := of_decide_eq_true (by first | (with_reducible assumption) | assumption)
             obtain ⟨Bz, D5, D6, Dt, B4, Bq, Br⟩ := at_L3 By.out Ba D3 D4
             have B8 := B4
             cases Dt
             replace B4 := (HB.out.cell (World.block_lt_of_cell? w _ B4)).trans B4
             have Bs := am_ Br
             have Bx := am_ Bq
             clear Br Bq
             replace D3 := eq_true D3
             replace D4 := eq_true D4
             refine start_ (n := 10) (S := fun w' => ce_ w' B2 0 (.int .i64 Bb) ∧ ce_ w' B2 1 (.int .i64 Bg) ∧ ce_ w' B2 2 (.int .i64 Bh) ∧ ce_ w' B2 3 (.int .i64 Bi) ∧ ce_ w' B2 4 (.int .i64 Bj) ∧ ce_ w' B2 5 (.int .i64 Bk) ∧ ce_ w' B2 6 (.int .i64 Bl) ∧ ce_ w' B2 7 (.int .i64 Bm) ∧ ce_ w' B2 8 (.int .i64 Bc) ∧ ce_ w' B2 9 (.int .i64 Bn) ∧ ce_ w' B2 10 (.slice Bv B6.length Bw) ∧ ce_ w' B5 0 (.int .i64 Bd) ∧ ce_ w' B5 1 (.string Bo) ∧ ce_ w' B5 2 (.slice D0 Bp.length D1) ∧ ce_ w' B5 3 (.slice (some Bz) B9.length D2) ∧ w'.cell? (Bz.add (Ba).toNat) = some (.slice D5 (rd_L3 B9 Ba).length D6)) (ds := []) #[false, false, false, false, false, false, false, false, false, false] (by kernel_rfl) rfl rfl ⟨(blk_cell B0.out 0).trans rfl, (blk_cell B0.out 1).trans rfl, (blk_cell B0.out 2).trans rfl, (blk_cell B0.out 3).trans rfl, (blk_cell B0.out 4).trans rfl, (blk_cell B0.out 5).trans rfl, (blk_cell B0.out 6).trans rfl, (blk_cell B0.out 7).trans rfl, (blk_cell B0.out 8).trans rfl, (blk_cell B0.out 9).trans rfl, (blk_cell B0.out 10).trans rfl, (blk_cell B1.out 0).trans rfl, (blk_cell B1.out 1).trans rfl, (blk_cell B1.out 2).trans rfl, (blk_cell B1.out 3).trans rfl, ((HB.out.cell (World.block_lt_of_cell? w _ B8)).trans B8)⟩ (fun hHeld => ?_); refine with_tabW r38_Fits.tab12 r38_Fits.bits12 (fun HT_ HW_ => ?_)
             generalize wr.drew = w43 at B0 B1 HB Bs B4 hHeld ⊢
             refine pur_ 1 (some 42) rfl rfl (any_of HT_.out (by kernel_rfl)) ?_
             refine pur_ 3 (some 44) rfl rfl (any_of HT_.out (by kernel_rfl)) ?_
             refine pur_ 5 (some 46) rfl rfl (any_of HT_.out (by kernel_rfl)) ?_
             refine tak_ 0 (some 41) rfl rfl (take_ofW HT_.out HW_.out (by kernel_rfl)) hHeld ?_ (by rintro w' ⟨s0, s1, s2, s3, s4, s5, s6, s7, s8, s9, s10, s11, s12, s13, s14, s15⟩; go_simp; with_reducible rfl)
             refine tak_ 2 (some 43) rfl rfl (take_ofW HT_.out HW_.out (by kernel_rfl)) hHeld ?_ (by rintro w' ⟨s0, s1, s2, s3, s4, s5, s6, s7, s8, s9, s10, s11, s12, s13, s14, s15⟩; go_simp; with_reducible rfl)
             refine tak_ 4 (some 45) rfl rfl (take_ofW HT_.out HW_.out (by kernel_rfl)) hHeld ?_ (by rintro w' ⟨s0, s1, s2, s3, s4, s5, s6, s7, s8, s9, s10, s11, s12, s13, s14, s15⟩; go_simp; with_reducible rfl)
             refine pur_ 6 (some 47) rfl rfl (any_of HT_.out (by kernel_rfl)) ?_
             refine tak_ 7 (some 48) rfl rfl (take_ofW HT_.out HW_.out (by kernel_rfl)) hHeld ?_ (by rintro w' ⟨s0, s1, s2, s3, s4, s5, s6, s7, s8, s9, s10, s11, s12, s13, s14, s15⟩; go_simp; with_reducible rfl)
             refine oon_ 8 (some 49) rfl rfl (one_of HT_.out (by kernel_rfl)) (fun K hK => ?_)
             refine gos_ Try.func40 (r38_one.calls k2 Bb Bg Bh Bi Bj Bk Bl Bm Bc Bn _ _ B6 _ _ l1 Bd Bo _ _ Bp _ _ B9 _ _ (rd_L3 B9 Ba) _ _ (Kd.C_below Be.out HB.out) Bf.out (Kd.C_below Dn.out HB.out) Do.out (Kd.C_below D8.out HB.out) D9.out (Kd.C_below By.out HB.out) Da.out ?side9 ?side10 Fa.out) ?_
             (case side9 => exact (Kd.C_below Bs.out HB.out))
             (case side10 => exact Bx.out)
             rintro e w44 ⟨rfl, hb⟩
             refine ⟨_, rfl, ?_⟩
             replace B0 := bkb_ B0 hb
             replace B1 := bkb_ B1 hb
             replace HB := bst_ HB hb
             (try clear hb)
             (try clear hb2)
             (try clear hk)
             (try clear hi)
             refine hK.out _ _ (and_11 B0.out ⟨(blk_cell B1.out 0).trans rfl, (blk_cell B1.out 1).trans rfl, (blk_cell B1.out 2).trans rfl, (blk_cell B1.out 3).trans rfl, ((HB.out.cell (World.block_lt_of_cell? w _ B8)).trans B8)⟩) (fun hHeld => ?_)
             clear hK K
             refine nor_ 49 ?_
             refine pur_ 9 (some 8) rfl rfl (any_of HT_.out (by kernel_rfl)) ?_
             refine done_ (done_of HT_.out (by kernel_rfl)) ?_
             try go_wp2_with (first | ((with_reducible refine gate_callee (f := 28) rfl ?_); refine gom_ (some 52) Try.func28 (r14_In.calls k2 _ _ l1 Ba _ _ (Kd.C_below Dn.out HB.out) Do.out Fc.out) ?_; rintro e w' ⟨rfl, ⟨nd, rfl⟩⟩; refine ⟨_, rfl, ?_⟩))
             go_roundg k2
             case measure => have := Et.out; have := Eu.out; omega
             case rel => exact ⟨(wrap64 (Ba + 1)), (by first | rfl | (simp; done) | (simp [*]; done)), H', ⟨by have := Et.out; have := Eu.out; omega⟩, ⟨by (with_reducible repeat (first | apply kn_ | apply kd_ | apply ka_)); exact B0.out⟩, ⟨by (with_reducible repeat (first | apply kn_ | apply kd_ | apply ka_)); exact B1.out⟩, ⟨by repeat (first | (with_reducible first | exact HB.out | apply ba_ | apply bn_ | apply bd_ | refine bs_ ?_ Bt.out | refine bs_ ?_ Bu.out) | exact HB.out)⟩⟩
            ·rw [if_neg Ee] at H
             have Eq : (Ds == 0) = false := beq_eq_false_iff_ne.mpr Ee
             have Er : (Ds != 0) = true := bne_iff_ne.mpr Ee
             obtain rfl := Option.some.inj H
             have Fv := B3.out
             have Fw := B7.out
             have Fx := cells_11 B0.out
             have Fy := frozen_11 B0.out
             try go_wp2
             replace B0 := am_ (blk_drew B0.out)
             replace B1 := am_ (blk_drew B1.out)
             replace HB := am_ (below_drew1 HB.out)
             have D3 : 0 ≤ (Ba : Int) := of_decide_eq_true (by first | (with_reducible assumption) | assumption)
             have D4 : Ba < (B9.length : Int) := of_decide_eq_true (by first | (with_reducible assumption) | assumption)
             obtain ⟨Bz, D5, D6, Dt, B4, Bq, Br⟩ := at_L3 By.out Ba D3 D4
             have B8 := B4
             cases Dt
             replace B4 := (HB.out.cell (World.block_lt_of_cell? w _ B4)).trans B4
             have Bs := am_ Br
             have Bx := am_ Bq
             clear Br Bq
             replace D3 := eq_true D3
             replace D4 := eq_true D4
             refine start_ (n := 10) (S := fun w' => ce_ w' B2 0 (.int .i64 Bb) ∧ ce_ w' B2 1 (.int .i64 Bg) ∧ ce_ w' B2 2 (.int .i64 Bh) ∧ ce_ w' B2 3 (.int .i64 Bi) ∧ ce_ w' B2 4 (.int .i64 Bj) ∧ ce_ w' B2 5 (.int .i64 Bk) ∧ ce_ w' B2 6 (.int .i64 Bl) ∧ ce_ w' B2 7 (.int .i64 Bm) ∧ ce_ w' B2 8 (.int .i64 Bc) ∧ ce_ w' B2 9 (.int .i64 Bn) ∧ ce_ w' B2 10 (.slice Bv B6.length Bw) ∧ ce_ w' B5 0 (.int .i64 Bd) ∧ ce_ w' B5 1 (.string Bo) ∧ ce_ w' B5 2 (.slice D0 Bp.length D1) ∧ ce_ w' B5 3 (.slice (some Bz) B9.length D2) ∧ w'.cell? (Bz.add (Ba).toNat) = some (.slice D5 (rd_L3 B9 Ba).length D6)) (ds := []) #[false, false, false, false, false, false, false, false, false, false] (by kernel_rfl) rfl rfl ⟨(blk_cell B0.out 0).trans rfl, (blk_cell B0.out 1).trans rfl, (blk_cell B0.out 2).trans rfl, (blk_cell B0.out 3).trans rfl, (blk_cell B0.out 4).trans rfl, (blk_cell B0.out 5).trans rfl, (blk_cell B0.out 6).trans rfl, (blk_cell B0.out 7).trans rfl, (blk_cell B0.out 8).trans rfl, (blk_cell B0.out 9).trans rfl, (blk_cell B0.out 10).trans rfl, (blk_cell B1.out 0).trans rfl, (blk_cell B1.out 1).trans rfl, (blk_cell B1.out 2).trans rfl, (blk_cell B1.out 3).trans rfl, ((HB.out.cell (World.block_lt_of_cell? w _ B8)).trans B8)⟩ (fun hHeld => ?_); refine with_tabW r38_Fits.tab12 r38_Fits.bits12 (fun HT_ HW_ => ?_)
             generalize wr.drew = w47 at B0 B1 HB Bs B4 hHeld ⊢
             refine pur_ 1 (some 42) rfl rfl (any_of HT_.out (by kernel_rfl)) ?_
             refine pur_ 3 (some 44) rfl rfl (any_of HT_.out (by kernel_rfl)) ?_
             refine pur_ 5 (some 46) rfl rfl (any_of HT_.out (by kernel_rfl)) ?_
             refine tak_ 0 (some 41) rfl rfl (take_ofW HT_.out HW_.out (by kernel_rfl)) hHeld ?_ (by rintro w' ⟨s0, s1, s2, s3, s4, s5, s6, s7, s8, s9, s10, s11, s12, s13, s14, s15⟩; go_simp; with_reducible rfl)
             refine tak_ 2 (some 43) rfl rfl (take_ofW HT_.out HW_.out (by kernel_rfl)) hHeld ?_ (by rintro w' ⟨s0, s1, s2, s3, s4, s5, s6, s7, s8, s9, s10, s11, s12, s13, s14, s15⟩; go_simp; with_reducible rfl)
             refine tak_ 4 (some 45) rfl rfl (take_ofW HT_.out HW_.out (by kernel_rfl)) hHeld ?_ (by rintro w' ⟨s0, s1, s2, s3, s4, s5, s6, s7, s8, s9, s10, s11, s12, s13, s14, s15⟩; go_simp; with_reducible rfl)
             refine pur_ 6 (some 47) rfl rfl (any_of HT_.out (by kernel_rfl)) ?_
             refine tak_ 7 (some 48) rfl rfl (take_ofW HT_.out HW_.out (by kernel_rfl)) hHeld ?_ (by rintro w' ⟨s0, s1, s2, s3, s4, s5, s6, s7, s8, s9, s10, s11, s12, s13, s14, s15⟩; go_simp; with_reducible rfl)
             refine oon_ 8 (some 49) rfl rfl (one_of HT_.out (by kernel_rfl)) (fun K hK => ?_)
             refine gos_ Try.func40 (r38_one.calls k2 Bb Bg Bh Bi Bj Bk Bl Bm Bc Bn _ _ B6 _ _ l1 Bd Bo _ _ Bp _ _ B9 _ _ (rd_L3 B9 Ba) _ _ (Kd.C_below Be.out HB.out) Bf.out (Kd.C_below Dn.out HB.out) Do.out (Kd.C_below D8.out HB.out) D9.out (Kd.C_below By.out HB.out) Da.out ?side9 ?side10 Fa.out) ?_
             (case side9 => exact (Kd.C_below Bs.out HB.out))
             (case side10 => exact Bx.out)
             rintro e w48 ⟨rfl, hb⟩
             refine ⟨_, rfl, ?_⟩
             replace B0 := bkb_ B0 hb
             replace B1 := bkb_ B1 hb
             replace HB := bst_ HB hb
             (try clear hb)
             (try clear hb2)
             (try clear hk)
             (try clear hi)
             refine hK.out _ _ (and_11 B0.out ⟨(blk_cell B1.out 0).trans rfl, (blk_cell B1.out 1).trans rfl, (blk_cell B1.out 2).trans rfl, (blk_cell B1.out 3).trans rfl, ((HB.out.cell (World.block_lt_of_cell? w _ B8)).trans B8)⟩) (fun hHeld => ?_)
             clear hK K
             refine nor_ 49 ?_
             refine pur_ 9 (some 8) rfl rfl (any_of HT_.out (by kernel_rfl)) ?_
             refine done_ (done_of HT_.out (by kernel_rfl)) ?_
             try go_wp2_with (first | ((with_reducible refine gate_callee (f := 28) rfl ?_); refine gom_ (some 52) Try.func28 (r14_In.calls k2 _ _ l1 Ba _ _ (Kd.C_below Dn.out HB.out) Do.out Fc.out) ?_; rintro e w' ⟨rfl, ⟨nd, rfl⟩⟩; refine ⟨_, rfl, ?_⟩))
             go_ret
             exact ⟨by first | rfl | (simp [*] <;> rfl), by repeat (first | (with_reducible first | exact HB.out | apply ba_ | apply bn_ | apply bd_ | refine bs_ ?_ Bt.out | refine bs_ ?_ Bu.out) | exact HB.out)⟩
          ·rw [if_neg Ew] at H
           exact absurd H (by simp)
         ·rw [if_neg Ev] at H
          exact absurd H (by simp)
        ·rw [if_neg Ef] at H
         have Ep : decide (Ba < Bb) = false := decide_eq_false Ef
         clear Ef
         obtain rfl := Option.some.inj H
         have Fz := B3.out
         have G0 := B7.out
         have G1 := cells_11 B0.out
         have G2 := frozen_11 B0.out
         go_wp2
         go_ret
         exact ⟨by first | rfl | (simp [*] <;> rfl), by repeat (first | (with_reducible first | exact HB.out | apply ba_ | apply bn_ | apply bd_ | refine bs_ ?_ Bt.out | refine bs_ ?_ Bu.out) | exact HB.out)⟩
     replace Ei := Bool.eq_false_iff.mpr Ei
     subst Ei
     rw [if_neg (show ¬ (false = true) by decide)] at H
     obtain rfl := Option.some.inj H
     rotate_left
     replace Eh := Bool.eq_false_iff.mpr Eh
     subst Eh
     rw [if_neg (show ¬ (false = true) by decide)] at H
     obtain rfl := Option.some.inj H
     rotate_left
     all_goals
      have G3 := B3.out
      have G4 := B7.out
      have G5 := cells_11 B0.out
      have G6 := frozen_11 B0.out
      have Ey : wc.cell? ⟨B5, 0, none⟩ = some (.int .i64 Bd) := (blk_cell B1.out 0).trans rfl
      have Ez : wc.cell? ⟨B5, 1, none⟩ = some (.string Bo) := (blk_cell B1.out 1).trans rfl
      have F0 : wc.cell? ⟨B5, 2, none⟩ = some (.slice D0 Bp.length D1) := (blk_cell B1.out 2).trans rfl
      have F1 : wc.cell? ⟨B5, 3, none⟩ = some (.slice D7 B9.length D2) := (blk_cell B1.out 3).trans rfl
      have F2 := blk_frozen B1.out 0
      have F3 := blk_frozen B1.out 1
      have F4 := blk_frozen B1.out 2
      have F5 := blk_frozen B1.out 3
     ·go_wp2_with (first | ((with_reducible refine gate_callee (f := 38) rfl ?_); refine gom_ (some 28) Try.func38 (r38_members.calls Ed Bb Bg Bh Bi Bj Bk Bl Bm Bc Bn _ _ B6 _ _ l1 Bo _ _ (Kd.C_below Be.out HB.out) Bf.out (Kd.C_below Dn.out HB.out) Do.out F8.out) ?_; rintro e w54 ⟨rfl, hb⟩; refine ⟨_, rfl, ?_⟩; replace B0 := bkb_ B0 hb; replace B1 := bkb_ B1 hb; replace HB := bst_ HB hb; (try clear hb); have G7 := cells_11 B0.out; have G8 := frozen_11 B0.out; have G9 := cells_4 B1.out; have Ga := frozen_4 B1.out) | ((with_reducible refine gate_callee (f := 39) rfl ?_); refine gom_ (some 33) Try.func39 (r38_sizes.calls Ed Bb Bg Bh Bi Bj Bk Bl Bm Bc Bn _ _ B6 _ _ l1 Bd Bo _ _ Bp _ _ B9 _ _ (Kd.C_below Be.out HB.out) Bf.out (Kd.C_below Dn.out HB.out) Do.out (Kd.C_below D8.out HB.out) D9.out (Kd.C_below By.out HB.out) Da.out Fi.out) ?_; rintro e w57 ⟨rfl, hb⟩; refine ⟨_, rfl, ?_⟩; replace B0 := bkb_ B0 hb; replace B1 := bkb_ B1 hb; replace HB := bst_ HB hb; (try clear hb)))
      go_ret
      exact ⟨by first | rfl | (simp [*] <;> rfl), by repeat (first | (with_reducible first | exact HB.out | apply ba_ | apply bn_ | apply bd_ | refine bs_ ?_ Bt.out | refine bs_ ?_ Bu.out) | exact HB.out)⟩
     ·go_wp2_with (first | ((with_reducible refine gate_callee (f := 38) rfl ?_); refine gom_ (some 28) Try.func38 (r38_members.calls Ed Bb Bg Bh Bi Bj Bk Bl Bm Bc Bn _ _ B6 _ _ l1 Bo _ _ (Kd.C_below Be.out HB.out) Bf.out (Kd.C_below Dn.out HB.out) Do.out F8.out) ?_; rintro e w61 ⟨rfl, hb⟩; refine ⟨_, rfl, ?_⟩; replace B0 := bkb_ B0 hb; replace B1 := bkb_ B1 hb; replace HB := bst_ HB hb; (try clear hb)))
      go_ret
      exact ⟨by first | rfl | (simp [*] <;> rfl), by repeat (first | (with_reducible first | exact HB.out | apply ba_ | apply bn_ | apply bd_ | refine bs_ ?_ Bt.out | refine bs_ ?_ Bu.out) | exact HB.out)⟩
 ·rw [if_neg c5] at H
  have Ea : (Dp == 0) = false := beq_eq_false_iff_ne.mpr c5
  have Eb : (Dp != 0) = true := bne_iff_ne.mpr c5
  replace H := Option.bind_eq_some_iff.mp H
  obtain ⟨Fd, Es, H⟩ := H
  replace H : (some Fd) = some r := H
  have Gl := am_ Es
  clear Es
  obtain rfl := Option.some.inj H
  go_enter Try.func15, Try.ntmps15
  go_wp2_with (first | ((with_reducible refine gate_dst (N := 3) rfl ?_); refine bxe_ 3 24 #[.int .i64 Bb, .int .i64 Bg, .int .i64 Bh, .int .i64 Bi, .int .i64 Bj, .int .i64 Bk, .int .i64 Bl, .int .i64 Bm, .int .i64 Bc, .int .i64 Bn, .slice Bv B6.length Bw] ?_; intro B2 hg w63 hbox hb; have B0 := am_ (hbox); have Dq := gwk_ HB hg; have Bt := Dq; replace HB := bst_ HB hb; clear hb hbox hg) | ((with_reducible refine gate_dst (N := 5) rfl ?_); refine bxe_ 5 32 #[.int .i64 Bd, .string Bo, .slice D0 Bp.length D1, .slice D7 B9.length D2] ?_; intro B5 hg w64 hbox hb; have B1 := am_ (hbox); have Dr := gwk_ HB hg; have Bu := Dr; replace HB := bst_ HB hb; have B3 := nbk_ B0 hg; have B7 := nbs_ B3; replace B0 := bkb_ B0 hb; clear hb hbox hg; have Gb := B3.out; have Gc := B7.out; have Gd := cells_11 B0.out; have Ge := frozen_11 B0.out) | ((with_reducible refine gate_callee (f := 16) rfl ?_); refine gom_ (some 10) Try.func16 (r03_Plain.calls k Bb Bg Bh Bi Bj Bk Bl Bm Bc Bn _ _ B6 _ _ (Kd.C_below Be.out HB.out) Bf.out A4.out) ?_; rintro e w67 ⟨rfl, hb⟩; refine ⟨_, rfl, ?_⟩; replace B0 := bkb_ B0 hb; replace B1 := bkb_ B1 hb; replace HB := bst_ HB hb; (try clear hb); have Gf := cells_11 B0.out; have Gg := frozen_11 B0.out) | ((with_reducible refine gate_callee (f := 16) rfl ?_); refine gom_ (some 13) Try.func16 (r03_Plain.calls k Bb Bg Bh Bi Bj Bk Bl Bm Bc Bn _ _ B6 _ _ (Kd.C_below Be.out HB.out) Bf.out Gl.out) ?_; rintro e w69 ⟨rfl, hb⟩; refine ⟨_, rfl, ?_⟩; replace B0 := bkb_ B0 hb; replace B1 := bkb_ B1 hb; replace HB := bst_ HB hb; (try clear hb)))
  go_ret
  exact ⟨by first | rfl | (simp [*] <;> rfl), by repeat (first | (with_reducible first | exact HB.out | apply ba_ | apply bn_ | apply bd_ | refine bs_ ?_ Bt.out | refine bs_ ?_ Bu.out) | exact HB.out)⟩
end Go.Proofs.Ytdnccjlfongdeaa.Gn
