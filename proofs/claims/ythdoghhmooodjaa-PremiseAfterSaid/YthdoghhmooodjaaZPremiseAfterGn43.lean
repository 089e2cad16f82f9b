import Derived.Test.YthdoghhmooodjaaZPremiseAfterGn0
import Derived.Test.YthdoghhmooodjaaZPremiseAfterGn1
import Derived.Test.YthdoghhmooodjaaZPremiseAfterGn16
import Derived.Test.YthdoghhmooodjaaZPremiseAfterGn63
namespace Go.Proofs.Ythdoghhmooodjaa.Gn
open Go.RowKit Go.Proofs.YthdoghhmooodjaaW.PrintWords Go.Proofs.YthdoghhmooodjaaW.PrintLast Go.Proofs.YthdoghhmooodjaaW.PrintMore
attribute [local go_sem] max2_int min2_int max_two min_two max_three min_three max_four min_four   -- for this text's walks alone
set_option linter.unusedVariables false
set_option linter.unusedSimpArgs false
def premise_Holds.f (k : Nat) (B6 B1 B7 B8 B9 Ba Bb Bc Bd Be : Int) (B2 B0 : List Int) (B3 : List ByteArray) (B4 : List (S44)) : Option (Int) := (script_Right.f k B6 B1 B7 B8 B9 Ba Bb Bc Bd Be B2 B0 B3 B4).bind fun B5 => (if B5 = 0 then (if (B0.length : Int) > B1 then (some 7) else (some 0)) else (some B5))
theorem premise_Holds.mono : ∀ a0 a1 a2 a3 a4 a5 a6 a7 a8 a9 B0 B1 B2 B3 k, LeO (premise_Holds.f k a0 a1 a2 a3 a4 a5 a6 a7 a8 a9 B0 B1 B2 B3) (premise_Holds.f (k + 1) a0 a1 a2 a3 a4 a5 a6 a7 a8 a9 B0 B1 B2 B3) := by
 intro a0 a1 a2 a3 a4 a5 a6 a7 a8 a9 B0 B1 B2 B3 k
 unfold premise_Holds.f
 repeat' first
   | (with_reducible exact script_Right.mono _ _ _ _ _ _ _ _ _ _ _ _ _ _ _)
   | (with_reducible exact LeO.refl _)
   | (with_reducible exact LeO.none _)
   | (with_reducible refine LeO.ite ?_ ?_)
   | (with_reducible refine LeO.bind ?_ (fun _ => ?_))
   | exact script_Right.mono _ _ _ _ _ _ _ _ _ _ _ _ _ _ _
   | exact LeO.none _
   | refine LeO.ite ?_ ?_
   | refine LeO.bind ?_ (fun _ => ?_)
set_option maxHeartbeats 8000000 in
set_option maxRecDepth 100000 in
theorem premise_Holds.calls (k : Nat) (Be B5 Bf Bg Bh Bi Bj Bk Bl Bm : Int) (B6 : Option Addr) (B7 : Nat) (B2 : List Int) (B8 : Option Addr) (B9 : Nat) (B1 : List Int) (Ba : Option Addr) (Bb : Nat) (B3 : List ByteArray) (Bc : Option Addr) (Bd : Nat) (B4 : List (S44)) (r : Int) (w : World) (Bn : Kd.C (Kd.int .i64) w B6 B2.length B2) (Bo : B2.length ≤ B7) (Bp : Kd.C (Kd.int .i64) w B8 B1.length B1) (Bq : B1.length ≤ B9) (Br : Kd.C Kd.string w Ba B3.length B3) (Bs : B3.length ≤ Bb) (Bt : Kd.C k44 w Bc B4.length B4) (Bu : B4.length ≤ Bd) (h : premise_Holds.f k Be B5 Bf Bg Bh Bi Bj Bk Bl Bm B2 B1 B3 B4 = some r) :
  Calls Try.prog 26 #[.agg #[.int .i64 Be, .int .i64 B5, .int .i64 Bf, .int .i64 Bg, .int .i64 Bh, .int .i64 Bi, .int .i64 Bj, .int .i64 Bk, .int .i64 Bl, .int .i64 Bm, .slice B6 B2.length B7, .slice B8 B1.length B9, .slice Ba B3.length Bb, .slice Bc B4.length Bd]] w fun e w' => e = .returned (.int .i64 r) ∧ Below w.heap.size w w' := by
 have Bv := am_ Bn
 have Bw := am_ Bo
 clear Bn Bo
 have Bx := am_ Bp
 have By := am_ Bq
 clear Bp Bq
 have Bz := am_ Br
 have D0 := am_ Bs
 clear Br Bs
 have D1 := am_ Bt
 have D2 := am_ Bu
 clear Bt Bu
 have HB := am_ (Below.refl w.heap.size w)
 have H := h
 unfold premise_Holds.f at H
 clear h
 obtain ⟨D3, A2, H⟩ := bes_ H
 try dsimp only at H
 by_cases c3 : D3 = 0
 ·rw [if_pos c3] at H
  have D8 : (D3 == 0) = true := beq_iff_eq.mpr c3
  have D9 : (D3 != 0) = false := bne_eq_false_iff_eq.mpr c3
  clear c3
  by_cases c4 : (B1.length : Int) > B5
  rw [if_pos c4] at H
  have Da : decide (B5 < (B1.length : Int)) = true := decide_eq_true c4
  rotate_left
  rw [if_neg c4] at H
  have Da : decide (B5 < (B1.length : Int)) = false := decide_eq_false c4
  rotate_left
  all_goals
   clear c4
   obtain rfl := Option.some.inj H
   go_enter Try.func26, Try.ntmps26
   go_wp2_with (first | ((with_reducible refine gate_load (t := 28) (x := .tmp 1) rfl ?_); refine lrg_ 28 (.tmp 1) D4 28 (by exact B0.out) Try.underlying28 ?_) | ((with_reducible refine gate_dst (N := 1) rfl ?_); refine bxe_ 1 28 #[.int .i64 Be, .int .i64 B5, .int .i64 Bf, .int .i64 Bg, .int .i64 Bh, .int .i64 Bi, .int .i64 Bj, .int .i64 Bk, .int .i64 Bl, .int .i64 Bm, .slice B6 B2.length B7, .slice B8 B1.length B9, .slice Ba B3.length Bb, .slice Bc B4.length Bd] ?_; intro D4 hg w5 hbox hb; have B0 := am_ (hbox); have D5 := gwk_ HB hg; have D6 := D5; replace HB := bst_ HB hb; clear hb hbox hg; have Db := cells_14 B0.out; have Dc := frozen_14 B0.out) | ((with_reducible refine gate_callee (f := 12) rfl ?_); refine gom_ (some 5) Try.func12 (script_Right.calls k Be B5 Bf Bg Bh Bi Bj Bk Bl Bm _ _ B2 _ _ B1 _ _ B3 _ _ B4 _ _ (Kd.C_below Bv.out HB.out) Bw.out (Kd.C_below Bx.out HB.out) By.out (Kd.C_below Bz.out HB.out) D0.out (Kd.C_below D1.out HB.out) D2.out A2.out) ?_; rintro e w7 ⟨rfl, hb⟩; refine ⟨_, rfl, ?_⟩; replace B0 := bkb_ B0 hb; replace HB := bst_ HB hb; (try clear hb); have Dd := cells_14 B0.out; have De := frozen_14 B0.out))
   go_ret
   exact ⟨by first | rfl | (simp [*] <;> rfl), by repeat (first | (with_reducible first | exact HB.out | apply ba_ | apply bn_ | apply bd_ | refine bs_ ?_ D6.out) | exact HB.out)⟩
 ·rw [if_neg c3] at H
  have D8 : (D3 == 0) = false := beq_eq_false_iff_ne.mpr c3
  have D9 : (D3 != 0) = true := bne_iff_ne.mpr c3
  obtain rfl := Option.some.inj H
  go_enter Try.func26, Try.ntmps26
  go_wp2_with (first | ((with_reducible refine gate_load (t := 28) (x := .tmp 1) rfl ?_); refine lrg_ 28 (.tmp 1) D4 28 (by exact B0.out) Try.underlying28 ?_) | ((with_reducible refine gate_dst (N := 1) rfl ?_); refine bxe_ 1 28 #[.int .i64 Be, .int .i64 B5, .int .i64 Bf, .int .i64 Bg, .int .i64 Bh, .int .i64 Bi, .int .i64 Bj, .int .i64 Bk, .int .i64 Bl, .int .i64 Bm, .slice B6 B2.length B7, .slice B8 B1.length B9, .slice Ba B3.length Bb, .slice Bc B4.length Bd] ?_; intro D4 hg w13 hbox hb; have B0 := am_ (hbox); have D5 := gwk_ HB hg; have D6 := D5; replace HB := bst_ HB hb; clear hb hbox hg; have Df := cells_14 B0.out; have D7 := frozen_14 B0.out) | ((with_reducible refine gate_callee (f := 12) rfl ?_); refine gom_ (some 5) Try.func12 (script_Right.calls k Be B5 Bf Bg Bh Bi Bj Bk Bl Bm _ _ B2 _ _ B1 _ _ B3 _ _ B4 _ _ (Kd.C_below Bv.out HB.out) Bw.out (Kd.C_below Bx.out HB.out) By.out (Kd.C_below Bz.out HB.out) D0.out (Kd.C_below D1.out HB.out) D2.out A2.out) ?_; rintro e w15 ⟨rfl, hb⟩; refine ⟨_, rfl, ?_⟩; replace B0 := bkb_ B0 hb; replace HB := bst_ HB hb; (try clear hb)))
  go_ret
  exact ⟨by first | rfl | (simp [*] <;> rfl), by repeat (first | (with_reducible first | exact HB.out | apply ba_ | apply bn_ | apply bd_ | refine bs_ ?_ D6.out) | exact HB.out)⟩
def premise_run_quiet.f (B4 B5 B6 B7 B8 B9 Ba Bb Bc Bd : Int) (B1 B2 : List Int) (B3 : List ByteArray) (B0 : List (S44)) (a1 : Int) : Option (Bool) := if 0 ≤ a1 then (if a1 < (B0.length : Int) then (if (((rd_T44 B0 a1).f3).length : Int) = 0 then (some ((((rd_T44 B0 a1).f4).length : Int) == 0)) else (some false)) else (none)) else (none)
set_option maxHeartbeats 8000000 in
set_option maxRecDepth 100000 in
theorem premise_run_quiet.calls (Dr Ds Dt Du Dv Dw Dx Dy Dz E0 : Int) (Bw : Option Addr) (Bx : Nat) (Bp : List Int) (By : Option Addr) (Bz : Nat) (Bq : List Int) (D0 : Option Addr) (D1 : Nat) (Br : List ByteArray) (D2 : Option Addr) (D3 : Nat) (B0 : List (S44)) (a1 : Int) (r : Bool) (w : World) (Dg : Kd.C (Kd.int .i64) w Bw Bp.length Bp) (Dh : Bp.length ≤ Bx) (Di : Kd.C (Kd.int .i64) w By Bq.length Bq) (Dj : Bq.length ≤ Bz) (Dk : Kd.C Kd.string w D0 Br.length Br) (Dl : Br.length ≤ D1) (Dm : Kd.C k44 w D2 B0.length B0) (Dn : B0.length ≤ D3) (h : premise_run_quiet.f Dr Ds Dt Du Dv Dw Dx Dy Dz E0 Bp Bq Br B0 a1 = some r) :
  Calls Try.prog 87 #[.agg #[.int .i64 Dr, .int .i64 Ds, .int .i64 Dt, .int .i64 Du, .int .i64 Dv, .int .i64 Dw, .int .i64 Dx, .int .i64 Dy, .int .i64 Dz, .int .i64 E0, .slice Bw Bp.length Bx, .slice By Bq.length Bz, .slice D0 Br.length D1, .slice D2 B0.length D3], .int .i64 a1] w fun e w' => e = .returned (.bool r) ∧ Below w.heap.size w w' := by
 have F6 := am_ Dg
 have F7 := am_ Dh
 clear Dg Dh
 have F8 := am_ Di
 have F9 := am_ Dj
 clear Di Dj
 have Fa := am_ Dk
 have Fb := am_ Dl
 clear Dk Dl
 have Bt := am_ Dm
 have Fc := am_ Dn
 clear Dm Dn
 have HB := am_ (Below.refl w.heap.size w)
 have H := h
 unfold premise_run_quiet.f at H
 clear h
 by_cases c3 : 0 ≤ a1
 ·rw [if_pos c3] at H
  have Fw : decide (0 ≤ a1) = true := decide_eq_true c3
  clear c3
  by_cases c4 : a1 < (B0.length : Int)
  ·rw [if_pos c4] at H
   have Fx : decide (a1 < (B0.length : Int)) = true := decide_eq_true c4
   clear c4
   by_cases c5 : (((rd_T44 B0 a1).f3).length : Int) = 0
   ·rw [if_pos c5] at H
    have Fd : ((((rd_T44 B0 a1).f3).length : Int) == 0) = true := beq_iff_eq.mpr c5
    have Fe : ((((rd_T44 B0 a1).f3).length : Int) != 0) = false := bne_eq_false_iff_eq.mpr c5
    clear c5
    obtain rfl := Option.some.inj H
    go_enter Try.func87, Try.ntmps87
    go_wp2_with (first | ((with_reducible refine gate_load (t := 64) (x := .tmp 2) rfl ?_); refine lrg_ 64 (.tmp 2) Do 64 (by exact Bs.out) Try.underlying64 ?_) | ((with_reducible refine gate_dst (N := 2) rfl ?_); (try (refine gate_guard (by rfl) ?_; dsimp only)); refine bxe_ 2 64 #[.int .i64 Dr, .int .i64 Ds, .int .i64 Dt, .int .i64 Du, .int .i64 Dv, .int .i64 Dw, .int .i64 Dx, .int .i64 Dy, .int .i64 Dz, .int .i64 E0, .slice Bw Bp.length Bx, .slice By Bq.length Bz, .slice D0 Br.length D1, .slice D2 B0.length D3] ?_; intro Do hg w6 hbox hb; have Bs := am_ (hbox); have Dp := gwk_ HB hg; have Dq := Dp; replace HB := bst_ HB hb; clear hb hbox hg; have Ff := cells_14 Bs.out; have Fg := frozen_14 Bs.out; have Bu : 0 ≤ (a1 : Int) := of_decide_eq_true (by first | (with_reducible assumption) | assumption); have Bv : a1 < (B0.length : Int) := of_decide_eq_true (by first | (with_reducible assumption) | assumption); obtain ⟨Ed, Ee, Ef, Eg, Eh, Ei, Ej, Ek, El, Em, En, Eo, Ep, Eq, B1, B2, B3, B4, B5, B6, B7, B8, B9, Ba, Bb, Bc, Bd, Be, Bf, Bg, Bh, Bi⟩ := at_T44 Bt.out a1 Bu Bv; cases Eq; replace B1 := (HB.out.cell (World.block_lt_of_cell? w _ B1)).trans B1; replace B2 := (HB.out.cell (World.block_lt_of_cell? w _ B2)).trans B2; replace B3 := (HB.out.cell (World.block_lt_of_cell? w _ B3)).trans B3; replace B4 := (HB.out.cell (World.block_lt_of_cell? w _ B4)).trans B4; replace B5 := (HB.out.cell (World.block_lt_of_cell? w _ B5)).trans B5; replace B6 := (HB.out.cell (World.block_lt_of_cell? w _ B6)).trans B6; have E1 := am_ B8; have E2 := am_ B7; clear B8 B7; have E3 := am_ Ba; have E4 := am_ B9; clear Ba B9; have E5 := am_ Bc; have E6 := am_ Bb; clear Bc Bb; have E7 := am_ Be; have E8 := am_ Bd; clear Be Bd; have E9 := am_ Bg; have Ea := am_ Bf; clear Bg Bf; have Eb := am_ Bi; have Ec := am_ Bh; clear Bi Bh; replace Bu := eq_true Bu; replace Bv := eq_true Bv; have Er : 0 ≤ (a1 : Int) := of_decide_eq_true (by first | (with_reducible assumption) | assumption); have Es : a1 < (B0.length : Int) := of_decide_eq_true (by first | (with_reducible assumption) | assumption); obtain ⟨Et, Fh, Fi, Fj, Fk, Fl, Fm, Fn, Fo, Fp, Fq, Fr, Fs, Ft, Bj, Bk, Bl, Bm, Bn, Bo, D4, D5, D6, D7, D8, D9, Da, Db, Dc, Dd, De, Df⟩ := at_T44 Bt.out a1 Er Es; obtain rfl : Ed = Et := (by injection Ft); replace Bj := (HB.out.cell (World.block_lt_of_cell? w _ Bj)).trans Bj; replace Bk := (HB.out.cell (World.block_lt_of_cell? w _ Bk)).trans Bk; replace Bl := (HB.out.cell (World.block_lt_of_cell? w _ Bl)).trans Bl; replace Bm := (HB.out.cell (World.block_lt_of_cell? w _ Bm)).trans Bm; replace Bn := (HB.out.cell (World.block_lt_of_cell? w _ Bn)).trans Bn; replace Bo := (HB.out.cell (World.block_lt_of_cell? w _ Bo)).trans Bo; have Eu := am_ D5; have Ev := am_ D4; clear D5 D4; have Ew := am_ D7; have Ex := am_ D6; clear D7 D6; have Ey := am_ D9; have Ez := am_ D8; clear D9 D8; have F0 := am_ Db; have F1 := am_ Da; clear Db Da; have F2 := am_ Dd; have F3 := am_ Dc; clear Dd Dc; have F4 := am_ Df; have F5 := am_ De; clear Df De; replace Er := eq_true Er; replace Es := eq_true Es; have ea_ := Option.some.inj (B1.symm.trans Bj); injection ea_ with ea_ en_ ec_; subst ea_; subst ec_; clear en_; have ea_ := Option.some.inj (B2.symm.trans Bk); injection ea_ with ea_ en_ ec_; subst ea_; subst ec_; clear en_; have ea_ := Option.some.inj (B3.symm.trans Bl); injection ea_ with ea_ en_ ec_; subst ea_; subst ec_; clear en_; have ea_ := Option.some.inj (B4.symm.trans Bm); injection ea_ with ea_ en_ ec_; subst ea_; subst ec_; clear en_; have ea_ := Option.some.inj (B5.symm.trans Bn); injection ea_ with ea_ en_ ec_; subst ea_; subst ec_; clear en_; have ea_ := Option.some.inj (B6.symm.trans Bo); injection ea_ with ea_ en_ ec_; subst ea_; subst ec_; clear en_))
    go_ret
    exact ⟨by first | rfl | (simp [*] <;> rfl), by repeat (first | (with_reducible first | exact HB.out | apply ba_ | apply bn_ | apply bd_ | refine bs_ ?_ Dq.out) | exact HB.out)⟩
   ·rw [if_neg c5] at H
    have Fd : ((((rd_T44 B0 a1).f3).length : Int) == 0) = false := beq_eq_false_iff_ne.mpr c5
    have Fe : ((((rd_T44 B0 a1).f3).length : Int) != 0) = true := bne_iff_ne.mpr c5
    have Fy : ¬ (((rd_T44 B0 a1).f3) = []) := fun h_ => c5 (by rw [h_]; rfl)
    obtain rfl := Option.some.inj H
    go_enter Try.func87, Try.ntmps87
    go_wp2_with (first | ((with_reducible refine gate_load (t := 64) (x := .tmp 2) rfl ?_); refine lrg_ 64 (.tmp 2) Do 64 (by exact Bs.out) Try.underlying64 ?_) | ((with_reducible refine gate_dst (N := 2) rfl ?_); (try (refine gate_guard (by rfl) ?_; dsimp only)); refine bxe_ 2 64 #[.int .i64 Dr, .int .i64 Ds, .int .i64 Dt, .int .i64 Du, .int .i64 Dv, .int .i64 Dw, .int .i64 Dx, .int .i64 Dy, .int .i64 Dz, .int .i64 E0, .slice Bw Bp.length Bx, .slice By Bq.length Bz, .slice D0 Br.length D1, .slice D2 B0.length D3] ?_; intro Do hg w8 hbox hb; have Bs := am_ (hbox); have Dp := gwk_ HB hg; have Dq := Dp; replace HB := bst_ HB hb; clear hb hbox hg; have Fu := cells_14 Bs.out; have Fv := frozen_14 Bs.out; have Bu : 0 ≤ (a1 : Int) := of_decide_eq_true (by first | (with_reducible assumption) | assumption); have Bv : a1 < (B0.length : Int) := of_decide_eq_true (by first | (with_reducible assumption) | assumption); obtain ⟨Ed, Ee, Ef, Eg, Eh, Ei, Ej, Ek, El, Em, En, Eo, Ep, Eq, B1, B2, B3, B4, B5, B6, B7, B8, B9, Ba, Bb, Bc, Bd, Be, Bf, Bg, Bh, Bi⟩ := at_T44 Bt.out a1 Bu Bv; cases Eq; replace B1 := (HB.out.cell (World.block_lt_of_cell? w _ B1)).trans B1; replace B2 := (HB.out.cell (World.block_lt_of_cell? w _ B2)).trans B2; replace B3 := (HB.out.cell (World.block_lt_of_cell? w _ B3)).trans B3; replace B4 := (HB.out.cell (World.block_lt_of_cell? w _ B4)).trans B4; replace B5 := (HB.out.cell (World.block_lt_of_cell? w _ B5)).trans B5; replace B6 := (HB.out.cell (World.block_lt_of_cell? w _ B6)).trans B6; have E1 := am_ B8; have E2 := am_ B7; clear B8 B7; have E3 := am_ Ba; have E4 := am_ B9; clear Ba B9; have E5 := am_ Bc; have E6 := am_ Bb; clear Bc Bb; have E7 := am_ Be; have E8 := am_ Bd; clear Be Bd; have E9 := am_ Bg; have Ea := am_ Bf; clear Bg Bf; have Eb := am_ Bi; have Ec := am_ Bh; clear Bi Bh; replace Bu := eq_true Bu; replace Bv := eq_true Bv))
    go_ret
    exact ⟨by first | rfl | (simp [*] <;> rfl), by repeat (first | (with_reducible first | exact HB.out | apply ba_ | apply bn_ | apply bd_ | refine bs_ ?_ Dq.out) | exact HB.out)⟩
  ·rw [if_neg c4] at H
   exact absurd H (by simp)
 ·rw [if_neg c3] at H
  exact absurd H (by simp)
def premise_run_steady.f (k : Nat) (B7 B8 B9 Ba B0 B1 Bb Bc Bd Be : Int) (B2 B3 : List Int) (B4 : List ByteArray) (B5 : List (S44)) (a1 a2 : Int) : Option (Bool) := (script_Units.f k B7 B8 B9 Ba B0 B1 Bb Bc Bd Be B2 B3 B4 B5 a1 a2).bind fun B6 => (if B6 ≥ (wrap64 (B0 - B1)) then (some (decide (B6 ≤ (wrap64 (B0 + B1))))) else (some false))
theorem premise_run_steady.mono : ∀ a0 a1 a2 a3 a4 a5 a6 a7 a8 a9 B0 B1 B2 B3 B4 B5 k, LeO (premise_run_steady.f k a0 a1 a2 a3 a4 a5 a6 a7 a8 a9 B0 B1 B2 B3 B4 B5) (premise_run_steady.f (k + 1) a0 a1 a2 a3 a4 a5 a6 a7 a8 a9 B0 B1 B2 B3 B4 B5) := by
 intro a0 a1 a2 a3 a4 a5 a6 a7 a8 a9 B0 B1 B2 B3 B4 B5 k
 unfold premise_run_steady.f
 repeat' first
   | (with_reducible exact script_Units.mono _ _ _ _ _ _ _ _ _ _ _ _ _ _ _ _ _)
   | (with_reducible exact LeO.refl _)
   | (with_reducible exact LeO.none _)
   | (with_reducible refine LeO.ite ?_ ?_)
   | (with_reducible refine LeO.bind ?_ (fun _ => ?_))
   | exact script_Units.mono _ _ _ _ _ _ _ _ _ _ _ _ _ _ _ _ _
   | exact LeO.none _
   | refine LeO.ite ?_ ?_
   | refine LeO.bind ?_ (fun _ => ?_)
set_option maxHeartbeats 8000000 in
set_option maxRecDepth 100000 in
theorem premise_run_steady.calls (k : Nat) (Bn Bo Bp Bq B5 B6 Br Bs Bt Bu : Int) (B7 : Option Addr) (B8 : Nat) (B0 : List Int) (B9 : Option Addr) (Ba : Nat) (B1 : List Int) (Bb : Option Addr) (Bc : Nat) (B2 : List ByteArray) (Bd : Option Addr) (Be : Nat) (B3 : List (S44)) (a1 a2 : Int) (r : Bool) (w : World) (Bf : Kd.C (Kd.int .i64) w B7 B0.length B0) (Bg : B0.length ≤ B8) (Bh : Kd.C (Kd.int .i64) w B9 B1.length B1) (Bi : B1.length ≤ Ba) (Bj : Kd.C Kd.string w Bb B2.length B2) (Bk : B2.length ≤ Bc) (Bl : Kd.C k44 w Bd B3.length B3) (Bm : B3.length ≤ Be) (h : premise_run_steady.f k Bn Bo Bp Bq B5 B6 Br Bs Bt Bu B0 B1 B2 B3 a1 a2 = some r) :
  Calls Try.prog 88 #[.agg #[.int .i64 Bn, .int .i64 Bo, .int .i64 Bp, .int .i64 Bq, .int .i64 B5, .int .i64 B6, .int .i64 Br, .int .i64 Bs, .int .i64 Bt, .int .i64 Bu, .slice B7 B0.length B8, .slice B9 B1.length Ba, .slice Bb B2.length Bc, .slice Bd B3.length Be], .int .i64 a1, .int .i64 a2] w fun e w' => e = .returned (.bool r) ∧ Below w.heap.size w w' := by
 have Dc := Try.underlying28
 have Bw := am_ Bf
 have Bx := am_ Bg
 clear Bf Bg
 have By := am_ Bh
 have Bz := am_ Bi
 clear Bh Bi
 have D0 := am_ Bj
 have D1 := am_ Bk
 clear Bj Bk
 have D2 := am_ Bl
 have D3 := am_ Bm
 clear Bl Bm
 have HB := am_ (Below.refl w.heap.size w)
 have H := h
 unfold premise_run_steady.f at H
 clear h
 obtain ⟨Bv, A4, H⟩ := bes_ H
 try dsimp only at H
 by_cases c5 : Bv ≥ (wrap64 (B5 - B6))
 rw [if_pos c5] at H
 have D7 : decide ((wrap64 (B5 - B6)) ≤ Bv) = true := decide_eq_true c5
 rotate_left
 rw [if_neg c5] at H
 have D7 : decide ((wrap64 (B5 - B6)) ≤ Bv) = false := decide_eq_false c5
 rotate_left
 all_goals
  clear c5
  obtain rfl := Option.some.inj H
  go_enter Try.func88, Try.ntmps88
  go_wp2_with (first | ((with_reducible refine gate_load (t := 64) (x := .tmp 3) rfl ?_); refine lrg_ 64 (.tmp 3) D4 64 (by exact B4.out) Try.underlying64 ?_) | ((with_reducible refine gate_dst (N := 3) rfl ?_); refine bxe_ 3 64 #[.int .i64 Bn, .int .i64 Bo, .int .i64 Bp, .int .i64 Bq, .int .i64 B5, .int .i64 B6, .int .i64 Br, .int .i64 Bs, .int .i64 Bt, .int .i64 Bu, .slice B7 B0.length B8, .slice B9 B1.length Ba, .slice Bb B2.length Bc, .slice Bd B3.length Be] ?_; intro D4 hg w6 hbox hb; have B4 := am_ (hbox); have D5 := gwk_ HB hg; have D6 := D5; replace HB := bst_ HB hb; clear hb hbox hg; have D8 := cells_14 B4.out; have D9 := frozen_14 B4.out) | ((with_reducible refine gate_callee (f := 14) rfl ?_); refine gom_ (some 12) Try.func14 (script_Units.calls k Bn Bo Bp Bq B5 B6 Br Bs Bt Bu _ _ B0 _ _ B1 _ _ B2 _ _ B3 a1 a2 Bv _ (Kd.C_below Bw.out HB.out) Bx.out (Kd.C_below By.out HB.out) Bz.out (Kd.C_below D0.out HB.out) D1.out (Kd.C_below D2.out HB.out) D3.out A4.out) ?_; rintro e w8 ⟨rfl, hb⟩; refine ⟨_, rfl, ?_⟩; replace B4 := bkb_ B4 hb; replace HB := bst_ HB hb; (try clear hb); have Da := cells_14 B4.out; have Db := frozen_14 B4.out))
  go_ret
  exact ⟨by first | rfl | (simp [*] <;> rfl), by repeat (first | (with_reducible first | exact HB.out | apply ba_ | apply bn_ | apply bd_ | refine bs_ ?_ D6.out) | exact HB.out)⟩
def premise_run_swift.l0 : Nat → Int → Int → List Int → Int → Int → Int → Int → Int → Int → Int → Int → Int → Int → Int → Int → List Int → List Int → List ByteArray → List (S44) → Option (Bool)
 | 0, _, _, _, _, _, _, _, _, _, _, _, _, _, _, _, _, _, _, _ => none
 | k + 1, x1, x2, Bg, Bh, Be, B1, B2, B0, B3, B4, B5, B6, B7, B8, B9, Ba, Bb, Bc, Bd => if Be < Bh then (if 0 ≤ Be then (if Be < (Bg.length : Int) then ((script_Delay.f k B1 B2 B0 B3 B4 B5 B6 B7 B8 B9 Ba Bb Bc Bd x1 x2 (rd Bg Be)).bind fun Bf => (if Bf < 1 then (some false) else (if Bf > B0 then (some false) else (premise_run_swift.l0 k x1 x2 Bg Bh (wrap64 (Be + 1)) B1 B2 B0 B3 B4 B5 B6 B7 B8 B9 Ba Bb Bc Bd)))) else (none)) else (none)) else (some true)
def premise_run_swift.f (k : Nat) (B4 B5 B6 B7 B8 B9 Ba Bb Bc Bd : Int) (B0 B1 : List Int) (B2 : List ByteArray) (B3 : List (S44)) (a1 a2 : Int) (l3 : List Int) : Option (Bool) := premise_run_swift.l0 k a1 a2 l3 (l3.length : Int) 0 B4 B5 B6 B7 B8 B9 Ba Bb Bc Bd B0 B1 B2 B3
theorem premise_run_swift.mono_l : ∀ k, (∀ y0 y1 y2 y3 y4 y5 y6 y7 y8 y9 B0 B1 B2 B3 B4 B5 B6 B7 B8, LeO (premise_run_swift.l0 k y0 y1 y2 y3 y4 y5 y6 y7 y8 y9 B0 B1 B2 B3 B4 B5 B6 B7 B8) (premise_run_swift.l0 (k + 1) y0 y1 y2 y3 y4 y5 y6 y7 y8 y9 B0 B1 B2 B3 B4 B5 B6 B7 B8))
 | 0 => fun _ _ _ _ _ _ _ _ _ _ _ _ _ _ _ _ _ _ _ r h => by simp [premise_run_swift.l0] at h
 | k + 1 => by
  have B9 := premise_run_swift.mono_l k
  ·intro y0 y1 y2 y3 y4 y5 y6 y7 y8 y9 B0 B1 B2 B3 B4 B5 B6 B7 B8
   unfold premise_run_swift.l0
   repeat' first
   | (with_reducible exact B9 _ _ _ _ _ _ _ _ _ _ _ _ _ _ _ _ _ _ _)
   | (with_reducible exact script_Delay.mono _ _ _ _ _ _ _ _ _ _ _ _ _ _ _ _ _ _)
   | (with_reducible exact LeO.refl _)
   | (with_reducible exact LeO.none _)
   | (with_reducible refine LeO.ite ?_ ?_)
   | (with_reducible refine LeO.bind ?_ (fun _ => ?_))
   | exact B9 _ _ _ _ _ _ _ _ _ _ _ _ _ _ _ _ _ _ _
   | exact script_Delay.mono _ _ _ _ _ _ _ _ _ _ _ _ _ _ _ _ _ _
   | exact LeO.none _
   | refine LeO.ite ?_ ?_
   | refine LeO.bind ?_ (fun _ => ?_)
theorem premise_run_swift.mono : ∀ a0 a1 a2 a3 a4 a5 a6 a7 a8 a9 B0 B1 B2 B3 B4 B5 B6 k, LeO (premise_run_swift.f k a0 a1 a2 a3 a4 a5 a6 a7 a8 a9 B0 B1 B2 B3 B4 B5 B6) (premise_run_swift.f (k + 1) a0 a1 a2 a3 a4 a5 a6 a7 a8 a9 B0 B1 B2 B3 B4 B5 B6) := by
 intro a0 a1 a2 a3 a4 a5 a6 a7 a8 a9 B0 B1 B2 B3 B4 B5 B6 k
 have B7 := premise_run_swift.mono_l k
 unfold premise_run_swift.f
 repeat' first
   | (with_reducible exact B7 _ _ _ _ _ _ _ _ _ _ _ _ _ _ _ _ _ _ _)
   | (with_reducible exact script_Delay.mono _ _ _ _ _ _ _ _ _ _ _ _ _ _ _ _ _ _)
   | (with_reducible exact LeO.refl _)
   | (with_reducible exact LeO.none _)
   | (with_reducible refine LeO.ite ?_ ?_)
   | (with_reducible refine LeO.bind ?_ (fun _ => ?_))
   | exact B7 _ _ _ _ _ _ _ _ _ _ _ _ _ _ _ _ _ _ _
   | exact script_Delay.mono _ _ _ _ _ _ _ _ _ _ _ _ _ _ _ _ _ _
   | exact LeO.none _
   | refine LeO.ite ?_ ?_
   | refine LeO.bind ?_ (fun _ => ?_)
set_option maxHeartbeats 8000000 in
set_option maxRecDepth 100000 in
theorem premise_run_swift.calls (k : Nat) (Bb Bc B7 Bd Be Bf Bg Bh Bi Bj : Int) (Bu : Option Addr) (Bv : Nat) (B3 : List Int) (Bw : Option Addr) (Bx : Nat) (B4 : List Int) (By : Option Addr) (Bz : Nat) (B5 : List ByteArray) (D0 : Option Addr) (D1 : Nat) (B6 : List (S44)) (a1 a2 : Int) (A3 : Option Addr) (c3 : Nat) (l3 : List Int) (r : Bool) (w : World) (D2 : Kd.C (Kd.int .i64) w Bu B3.length B3) (D3 : B3.length ≤ Bv) (D4 : Kd.C (Kd.int .i64) w Bw B4.length B4) (D5 : B4.length ≤ Bx) (D6 : Kd.C Kd.string w By B5.length B5) (D7 : B5.length ≤ Bz) (D8 : Kd.C k44 w D0 B6.length B6) (D9 : B6.length ≤ D1) (Dn : Kd.C (Kd.int .i64) w A3 l3.length l3) (Do : l3.length ≤ c3) (h : premise_run_swift.f k Bb Bc B7 Bd Be Bf Bg Bh Bi Bj B3 B4 B5 B6 a1 a2 l3 = some r) :
  Calls Try.prog 89 #[.agg #[.int .i64 Bb, .int .i64 Bc, .int .i64 B7, .int .i64 Bd, .int .i64 Be, .int .i64 Bf, .int .i64 Bg, .int .i64 Bh, .int .i64 Bi, .int .i64 Bj, .slice Bu B3.length Bv, .slice Bw B4.length Bx, .slice By B5.length Bz, .slice D0 B6.length D1], .int .i64 a1, .int .i64 a2, .slice A3 l3.length c3] w fun e w' => e = .returned (.bool r) ∧ Below w.heap.size w w' := by
 have Dw := Try.underlying28
 have Bm := am_ D2
 have Bn := am_ D3
 clear D2 D3
 have Bo := am_ D4
 have Bp := am_ D5
 clear D4 D5
 have Bq := am_ D6
 have Br := am_ D7
 clear D6 D7
 have Bs := am_ D8
 have Bt := am_ D9
 clear D8 D9
 have Dh := am_ Dn
 have Dz := am_ Do
 clear Dn Do
 have HB := am_ (Below.refl w.heap.size w)
 have H := h
 unfold premise_run_swift.f at H
 clear h
 have H' := am_ H
 clear H
 go_enter Try.func89, Try.ntmps89
 go_wp2_with (first | ((with_reducible refine gate_load (t := 64) (x := .tmp 4) rfl ?_); refine lrg_ 64 (.tmp 4) Bk 64 (by exact B0.out) Try.underlying64 ?_) | ((with_reducible refine gate_dst (N := 4) rfl ?_); refine bxe_ 4 64 #[.int .i64 Bb, .int .i64 Bc, .int .i64 B7, .int .i64 Bd, .int .i64 Be, .int .i64 Bf, .int .i64 Bg, .int .i64 Bh, .int .i64 Bi, .int .i64 Bj, .slice Bu B3.length Bv, .slice Bw B4.length Bx, .slice By B5.length Bz, .slice D0 B6.length D1] ?_; intro Bk hg w5 hbox hb; have B0 := am_ (hbox); have De := gwk_ HB hg; have Bl := De; replace HB := bst_ HB hb; clear hb hbox hg))
 go_loopg [14] k (fun kq v14 w' => ∃ (B1 : Int), v14 = .int .i64 B1 ∧ Aside0 (premise_run_swift.l0 kq a1 a2 l3 (l3.length : Int) B1 Bb Bc B7 Bd Be Bf Bg Bh Bi Bj B3 B4 B5 B6 = some r) ∧ Aside0 (kq ≤ k) ∧ Aside0 (w'.heap[Bk]? = some (.cells #[.int .i64 Bb, .int .i64 Bc, .int .i64 B7, .int .i64 Bd, .int .i64 Be, .int .i64 Bf, .int .i64 Bg, .int .i64 Bh, .int .i64 Bi, .int .i64 Bj, (.slice Bu B3.length Bv), (.slice Bw B4.length Bx), (.slice By B5.length Bz), (.slice D0 B6.length D1)] 64 (0, 0))) ∧ Aside0 (Below w.heap.size w w'))
 case atStart => exact ⟨(0), (by first | rfl | (simp; done) | (simp [*]; done)), H', ⟨Nat.le_refl _⟩, ⟨by (with_reducible repeat (first | apply kn_ | apply kd_ | apply ka_)); exact B0.out⟩, ⟨by repeat (first | (with_reducible first | exact HB.out | apply ba_ | apply bn_ | apply bd_ | refine bs_ ?_ Bl.out) | exact HB.out)⟩⟩
 case round =>
  clear H'
  try clear p2
  try clear c3
  obtain ⟨B1, rfl, HA, Dp, B0, HB⟩ := hrel
  cases gk with
  | zero => exact absurd HA.out (by simp [premise_run_swift.l0])
  | succ k1 =>
   have H := HA.out
   clear HA
   simp only [premise_run_swift.l0] at H
   by_cases c6 : B1 < (l3.length : Int)
   ·rw [if_pos c6] at H
    have Di : decide (B1 < (l3.length : Int)) = true := decide_eq_true c6
    clear c6
    by_cases c7 : 0 ≤ B1
    ·rw [if_pos c7] at H
     have Dx : decide (0 ≤ B1) = true := decide_eq_true c7
     clear c7
     by_cases c8 : B1 < (l3.length : Int)
     ·rw [if_pos c8] at H
      have Dy : decide (B1 < (l3.length : Int)) = true := decide_eq_true c8
      clear c8
      obtain ⟨Ba, A9, H⟩ := bes_ H
      try dsimp only at H
      by_cases Dc : Ba < 1
      ·rw [if_pos Dc] at H
       have Df : decide (Ba < 1) = true := decide_eq_true Dc
       clear Dc
       obtain rfl := Option.some.inj H
       have B8 : 0 ≤ (B1 : Int) := of_decide_eq_true (by first | (with_reducible assumption) | assumption)
       have B9 : B1 < (l3.length : Int) := of_decide_eq_true (by first | (with_reducible assumption) | assumption)
       obtain ⟨Db, Da, B2⟩ := Kd.at_int Dh.out B1 B8 B9
       cases Da
       replace B2 := (HB.out.cell (World.block_lt_of_cell? w _ B2)).trans B2
       replace B8 := eq_true B8
       replace B9 := eq_true B9
       have Dq := cells_14 B0.out
       have Dr := frozen_14 B0.out
       go_wp2_with (first | ((with_reducible refine gate_load (t := 64) (x := .tmp 4) rfl ?_); refine lrg_ 64 (.tmp 4) Bk 64 (by exact B0.out) Try.underlying64 ?_) | ((with_reducible refine gate_callee (f := 16) rfl ?_); refine gom_ (some 23) Try.func16 (script_Delay.calls k1 Bb Bc B7 Bd Be Bf Bg Bh Bi Bj _ _ B3 _ _ B4 _ _ B5 _ _ B6 a1 a2 (rd l3 B1) Ba _ (Kd.C_below Bm.out HB.out) Bn.out (Kd.C_below Bo.out HB.out) Bp.out (Kd.C_below Bq.out HB.out) Br.out (Kd.C_below Bs.out HB.out) Bt.out A9.out) ?_; rintro e w12 ⟨rfl, hb⟩; refine ⟨_, rfl, ?_⟩; replace B0 := bkb_ B0 hb; replace HB := bst_ HB hb; (try clear hb)))
       go_ret
       exact ⟨by first | rfl | (simp [*] <;> rfl), by repeat (first | (with_reducible first | exact HB.out | apply ba_ | apply bn_ | apply bd_ | refine bs_ ?_ Bl.out) | exact HB.out)⟩
      ·rw [if_neg Dc] at H
       have Df : decide (Ba < 1) = false := decide_eq_false Dc
       clear Dc
       by_cases Dd : Ba > B7
       ·rw [if_pos Dd] at H
        have Dg : decide (B7 < Ba) = true := decide_eq_true Dd
        clear Dd
        obtain rfl := Option.some.inj H
        have B8 : 0 ≤ (B1 : Int) := of_decide_eq_true (by first | (with_reducible assumption) | assumption)
        have B9 : B1 < (l3.length : Int) := of_decide_eq_true (by first | (with_reducible assumption) | assumption)
        obtain ⟨Db, Da, B2⟩ := Kd.at_int Dh.out B1 B8 B9
        cases Da
        replace B2 := (HB.out.cell (World.block_lt_of_cell? w _ B2)).trans B2
        replace B8 := eq_true B8
        replace B9 := eq_true B9
        have Ds := cells_14 B0.out
        have Dt := frozen_14 B0.out
        go_wp2_with (first | ((with_reducible refine gate_load (t := 64) (x := .tmp 4) rfl ?_); refine lrg_ 64 (.tmp 4) Bk 64 (by exact B0.out) Try.underlying64 ?_) | ((with_reducible refine gate_callee (f := 16) rfl ?_); refine gom_ (some 23) Try.func16 (script_Delay.calls k1 Bb Bc B7 Bd Be Bf Bg Bh Bi Bj _ _ B3 _ _ B4 _ _ B5 _ _ B6 a1 a2 (rd l3 B1) Ba _ (Kd.C_below Bm.out HB.out) Bn.out (Kd.C_below Bo.out HB.out) Bp.out (Kd.C_below Bq.out HB.out) Br.out (Kd.C_below Bs.out HB.out) Bt.out A9.out) ?_; rintro e w15 ⟨rfl, hb⟩; refine ⟨_, rfl, ?_⟩; replace B0 := bkb_ B0 hb; replace HB := bst_ HB hb; (try clear hb); have Dj := cells_14 B0.out; have Dk := frozen_14 B0.out))
        go_ret
        exact ⟨by first | rfl | (simp [*] <;> rfl), by repeat (first | (with_reducible first | exact HB.out | apply ba_ | apply bn_ | apply bd_ | refine bs_ ?_ Bl.out) | exact HB.out)⟩
       ·rw [if_neg Dd] at H
        have Dg : decide (B7 < Ba) = false := decide_eq_false Dd
        clear Dd
        have H' := am_ H
        clear H
        have B8 : 0 ≤ (B1 : Int) := of_decide_eq_true (by first | (with_reducible assumption) | assumption)
        have B9 : B1 < (l3.length : Int) := of_decide_eq_true (by first | (with_reducible assumption) | assumption)
        obtain ⟨Db, Da, B2⟩ := Kd.at_int Dh.out B1 B8 B9
        cases Da
        replace B2 := (HB.out.cell (World.block_lt_of_cell? w _ B2)).trans B2
        replace B8 := eq_true B8
        replace B9 := eq_true B9
        have Du := cells_14 B0.out
        have Dv := frozen_14 B0.out
        go_wp2_with (first | ((with_reducible refine gate_load (t := 64) (x := .tmp 4) rfl ?_); refine lrg_ 64 (.tmp 4) Bk 64 (by exact B0.out) Try.underlying64 ?_) | ((with_reducible refine gate_callee (f := 16) rfl ?_); refine gom_ (some 23) Try.func16 (script_Delay.calls k1 Bb Bc B7 Bd Be Bf Bg Bh Bi Bj _ _ B3 _ _ B4 _ _ B5 _ _ B6 a1 a2 (rd l3 B1) Ba _ (Kd.C_below Bm.out HB.out) Bn.out (Kd.C_below Bo.out HB.out) Bp.out (Kd.C_below Bq.out HB.out) Br.out (Kd.C_below Bs.out HB.out) Bt.out A9.out) ?_; rintro e w18 ⟨rfl, hb⟩; refine ⟨_, rfl, ?_⟩; replace B0 := bkb_ B0 hb; replace HB := bst_ HB hb; (try clear hb); have Dl := cells_14 B0.out; have Dm := frozen_14 B0.out))
        go_roundg k1
        case measure => have := Dp.out; omega
        case rel => exact ⟨(wrap64 (B1 + 1)), (by first | rfl | (simp; done) | (simp [*]; done)), H', ⟨by have := Dp.out; omega⟩, ⟨by (with_reducible repeat (first | apply kn_ | apply kd_ | apply ka_)); exact B0.out⟩, ⟨by repeat (first | (with_reducible first | exact HB.out | apply ba_ | apply bn_ | apply bd_ | refine bs_ ?_ Bl.out) | exact HB.out)⟩⟩
     ·rw [if_neg c8] at H
      exact absurd H (by simp)
    ·rw [if_neg c7] at H
     exact absurd H (by simp)
   ·rw [if_neg c6] at H
    have Di : decide (B1 < (l3.length : Int)) = false := decide_eq_false c6
    clear c6
    obtain rfl := Option.some.inj H
    go_wp2
    go_ret
    exact ⟨by first | rfl | (simp [*] <;> rfl), by repeat (first | (with_reducible first | exact HB.out | apply ba_ | apply bn_ | apply bd_ | refine bs_ ?_ Bl.out) | exact HB.out)⟩
end Go.Proofs.Ythdoghhmooodjaa.Gn
