import Derived.Test.YthdoghhmooodjaaZPremiseAfterGn0
import Derived.Test.YthdoghhmooodjaaZPremiseAfterGn1
import Derived.Test.YthdoghhmooodjaaZPremiseAfterGn31
import Derived.Test.YthdoghhmooodjaaZPremiseAfterGn32
import Derived.Test.YthdoghhmooodjaaZPremiseAfterGn33
namespace Go.Proofs.Ythdoghhmooodjaa.Gn
open Go.RowKit Go.Proofs.YthdoghhmooodjaaW.PrintWords Go.Proofs.YthdoghhmooodjaaW.PrintLast Go.Proofs.YthdoghhmooodjaaW.PrintMore
attribute [local go_sem] max2_int min2_int max_two min_two max_three min_three max_four min_four   -- for this text's walks alone
set_option linter.unusedVariables false
set_option linter.unusedSimpArgs false
mutual
def r33_tick.j0 : Nat → Bool → Int → Int → Int → Int → Int → Int → Int → Int → Int → Int → List Int → List Int → List Int → List (S74) → List (S48) → List (S74) → List (S81) → Option (Int)
 | 0, _, _, _, _, _, _, _, _, _, _, _, _, _, _, _, _, _, _ => none
 | k + 1, Bm, B6, B7, B8, B9, Ba, Bb, Bc, Bd, Be, Bf, Bg, B4, B5, B1, B2, B3, B0 => if Bm = true then (some 2) else (if (B1.length : Int) > 40 then (r33_tick.j1 k true B6 B7 B8 B9 Ba Bb Bc Bd Be Bf Bg B4 B5 B1 B2 B3 B0) else (if (B2.length : Int) > 40 then (r33_tick.j1 k true B6 B7 B8 B9 Ba Bb Bc Bd Be Bf Bg B4 B5 B1 B2 B3 B0) else (if (B3.length : Int) > 40 then (r33_tick.j1 k true B6 B7 B8 B9 Ba Bb Bc Bd Be Bf Bg B4 B5 B1 B2 B3 B0) else (r33_tick.j1 k (decide ((B0.length : Int) > 40)) B6 B7 B8 B9 Ba Bb Bc Bd Be Bf Bg B4 B5 B1 B2 B3 B0))))
def r33_tick.j1 : Nat → Bool → Int → Int → Int → Int → Int → Int → Int → Int → Int → Int → List Int → List Int → List Int → List (S74) → List (S48) → List (S74) → List (S81) → Option (Int)
 | 0, _, _, _, _, _, _, _, _, _, _, _, _, _, _, _, _, _, _ => none
 | k + 1, Bn, B6, B7, B8, B9, Ba, Bb, Bc, Bd, Be, Bf, Bg, B4, B5, B1, B2, B3, B0 => if Bn = true then (some 9) else ((r33_nodes.f k B6 B7 B8 B9 Ba Bb Bc Bd Be Bf Bg B4 B5 B1 B2 B3 B0).bind fun Bi => (if Bi = true then ((r33_long.f k B4 B5 B1 B2 B3 B0).bind fun Bj => (if Bj = true then (some 6) else (r33_tick.l0 k B0 (B0.length : Int) 0))) else (some 7)))
def r33_tick.l0 : Nat → List (S81) → Int → Int → Option (Int)
 | 0, _, _, _ => none
 | k + 1, Bk, Bl, Bh => if Bh < Bl then (if 0 ≤ Bh then (if Bh < (Bk.length : Int) then (if (((rd_T81 Bk Bh).f1).size : Int) > 16 then (some 15) else (r33_tick.l0 k Bk Bl (wrap64 (Bh + 1)))) else (none)) else (none)) else (some 0)
end
def r33_tick.f (k : Nat) (B0 B8 B9 Ba Bb Bc Bd Be Bf Bg : Int) (B1 B2 B3 : List Int) (B4 : List (S74)) (B6 : List (S48)) (B5 : List (S74)) (B7 : List (S81)) : Option (Int) := (r33_within.f k B2 B0).bind fun Bh => (if Bh = true then ((r33_within.f k B3 (wrap64 (B0 * B0))).bind fun Bi => (if Bi = true then ((r33_waits.f k B2 B3 B4 B6 B5 B7).bind fun Bj => ((r33_within.f k Bj (wrap64 ((B4.length : Int) + (B5.length : Int)))).bind fun Bk => (r33_tick.j0 k (!Bk) B0 B8 B9 Ba Bb Bc Bd Be Bf Bg B1 B2 B3 B4 B6 B5 B7))) else (r33_tick.j0 k true B0 B8 B9 Ba Bb Bc Bd Be Bf Bg B1 B2 B3 B4 B6 B5 B7))) else (r33_tick.j0 k true B0 B8 B9 Ba Bb Bc Bd Be Bf Bg B1 B2 B3 B4 B6 B5 B7))
def r33_tick.T1 : Bool × List (List Nat × List Nat) := (true, [([], []), ([0], [0]), ([], []), ([2], [2]), ([1, 3], [1, 3]), ([4], [4]), ([5, 4], [5]), ([6], [6]), ([7, 6], [6, 7]), ([6], [6]), ([9, 6], [6, 9]), ([6], [6]), ([11, 6], [6, 11]), ([10, 12, 6], [6, 10, 12]), ([8, 13, 6, 6], [6, 8, 13]), ([14, 6], [6, 14]), ([6, 15], [6, 15]), ([16, 14], [16]), ([17], [17]), ([18, 17, 17], [17, 18]), ([17], [17]), ([20, 17], [17, 20]), ([21, 17], [17, 21]), ([17], [17]), ([23, 17], [17, 23]), ([24, 17], [17, 24]), ([22, 25, 17], [17, 22, 25]), ([19, 26, 19, 17], [17, 19, 26]), ([27, 17], [17, 27]), ([17, 28], [17, 28])])
def r33_tick.B1 : List Nat := [0, 1, 0, 4, 15, 31, 63, 127, 255, 127, 639, 127, 2175, 7807, 16383, 32767, 65535, 131071, 262143, 524287, 262143, 1310719, 3407871, 262143, 8650751, 25427967, 66322431, 134217727, 268435455, 536870911]
theorem r33_tick.tab1 : rtab .any (opsOf Try.f45 1) = r33_tick.T1 := by kernel_rfl
theorem r33_tick.bits1 : waitsOk r33_tick.T1.2 r33_tick.B1 = true := by kernel_rfl
set_option maxHeartbeats 8000000 in
set_option maxRecDepth 100000 in
theorem r33_tick.calls (k : Nat) (Bk Bo Bp Bq Br Bs Bt Bu Bv Bw : Int) (Bx : Option Addr) (By : Nat) (Bd : List Int) (Df : Option Addr) (Dg : Nat) (Bg : List Int) (Dh : Option Addr) (Di : Nat) (Bh : List Int) (Dj : Option Addr) (Dk : Nat) (B9 : List (S74)) (Dl : Option Addr) (Dm : Nat) (Be : List (S48)) (Dn : Option Addr) (Do : Nat) (Ba : List (S74)) (Dp : Option Addr) (Dq : Nat) (B5 : List (S81)) (r : Int) (w : World) (Dx : Kd.C (Kd.int .i64) w Bx Bd.length Bd) (Dy : Bd.length ≤ By) (E7 : Kd.C (Kd.int .i64) w Df Bg.length Bg) (E8 : Bg.length ≤ Dg) (E9 : Kd.C (Kd.int .i64) w Dh Bh.length Bh) (Ea : Bh.length ≤ Di) (Eb : Kd.C k74 w Dj B9.length B9) (Ec : B9.length ≤ Dk) (Ed : Kd.C k48 w Dl Be.length Be) (Ee : Be.length ≤ Dm) (Ef : Kd.C k74 w Dn Ba.length Ba) (Eg : Ba.length ≤ Do) (Eh : Kd.C k81 w Dp B5.length B5) (Ei : B5.length ≤ Dq) (h : r33_tick.f k Bk Bo Bp Bq Br Bs Bt Bu Bv Bw Bd Bg Bh B9 Be Ba B5 = some r) :
  Calls Try.prog 45 #[.agg #[.int .i64 Bk, .int .i64 Bo, .int .i64 Bp, .int .i64 Bq, .int .i64 Br, .int .i64 Bs, .int .i64 Bt, .int .i64 Bu, .int .i64 Bv, .int .i64 Bw, .slice Bx Bd.length By], .agg #[.slice Df Bg.length Dg, .slice Dh Bh.length Di, .slice Dj B9.length Dk, .slice Dl Be.length Dm, .slice Dn Ba.length Do, .slice Dp B5.length Dq]] w fun e w' => e = .returned (.int .i64 r) ∧ Below w.heap.size w w' := by
 have J4 := Try.underlying24
 have J5 := Try.underlying44
 have J6 := Try.underlying81
 have Dr := am_ Dx
 have Ds := am_ Dy
 clear Dx Dy
 have Bz := am_ E7
 have D0 := am_ E8
 clear E7 E8
 have D1 := am_ E9
 have D2 := am_ Ea
 clear E9 Ea
 have D5 := am_ Eb
 have D6 := am_ Ec
 clear Eb Ec
 have D7 := am_ Ed
 have D8 := am_ Ee
 clear Ed Ee
 have D9 := am_ Ef
 have Da := am_ Eg
 clear Ef Eg
 have Bn := am_ Eh
 have Db := am_ Ei
 clear Eh Ei
 have HB := am_ (Below.refl w.heap.size w)
 have H := h
 unfold r33_tick.f at H
 clear h
 have Fz := am_ H
 clear H
 go_enter Try.func45, Try.ntmps45
 go_upto_region 1 with (first | ((with_reducible refine gate_dst (N := 2) rfl ?_); (try (refine gate_guard (by rfl) ?_; dsimp only)); refine bxe_ 2 24 #[.int .i64 Bk, .int .i64 Bo, .int .i64 Bp, .int .i64 Bq, .int .i64 Br, .int .i64 Bs, .int .i64 Bt, .int .i64 Bu, .int .i64 Bv, .int .i64 Bw, .slice Bx Bd.length By] ?_; intro B7 hg w4 hbox hb; have Dc := below_of hb (by repeat (first | (with_reducible first | exact HB.out | apply ba_ | apply bn_ | apply bd_) | exact HB.out)); have B1 := am_ (hbox); have F0 := am_ ((by rw [hg]; exact (below_size Dc) : w.heap.size ≤ B7)); have B2 := F0; replace HB := am_ (below_step Dc hb); clear Dc; clear hb hbox hg) | ((with_reducible refine gate_dst (N := 3) rfl ?_); (try (refine gate_guard (by rfl) ?_; dsimp only)); refine bxe_ 3 44 #[.slice Df Bg.length Dg, .slice Dh Bh.length Di, .slice Dj B9.length Dk, .slice Dl Be.length Dm, .slice Dn Ba.length Do, .slice Dp B5.length Dq] ?_; intro Bf hg w5 hbox hb; have Dc := below_of hb (by repeat (first | (with_reducible first | exact HB.out | apply ba_ | apply bn_ | apply bd_ | refine bs_ ?_ B2.out) | exact HB.out)); have B0 := am_ (hbox); have F1 := am_ ((by rw [hg]; exact (below_size Dc) : w.heap.size ≤ Bf)); have B3 := F1; replace HB := am_ (below_step Dc hb); have B6 := am_ ((by rw [hg]; exact Nat.ne_of_lt (blk_lt (by (with_reducible repeat (first | apply kn_ | apply kd_ | apply ka_)); exact B1.out)) : B7 ≠ Bf)); have B8 := nbs_ B6; replace B1 := am_ (blk_below (by (with_reducible repeat (first | apply kn_ | apply kd_ | apply ka_)); exact B1.out) hb); clear Dc; clear hb hbox hg))
 (try simp only [Act.put, zs_])
 go_cut [36] (fun v36 wc => ∃ (kq : Nat) (Dw : Bool), v36 = .bool Dw ∧ Aside0 (r33_tick.j0 kq Dw Bk Bo Bp Bq Br Bs Bt Bu Bv Bw Bd Bg Bh B9 Be Ba B5 = some r) ∧ Aside0 (kq ≤ k) ∧ Aside0 (wc.heap[B7]? = some (.cells #[.int .i64 Bk, .int .i64 Bo, .int .i64 Bp, .int .i64 Bq, .int .i64 Br, .int .i64 Bs, .int .i64 Bt, .int .i64 Bu, .int .i64 Bv, .int .i64 Bw, (.slice Bx Bd.length By)] 24 (0, 0))) ∧ Aside0 (wc.heap[Bf]? = some (.cells #[(.slice Df Bg.length Dg), (.slice Dh Bh.length Di), (.slice Dj B9.length Dk), (.slice Dl Be.length Dm), (.slice Dn Ba.length Do), (.slice Dp B5.length Dq)] 44 (0, 0))) ∧ Aside0 (Below w.heap.size w wc))
 case first =>
  have H := Fz.out
  clear Fz
  obtain ⟨G0, A6, H⟩ := bes_ H
  try dsimp only at H
  by_cases c7 : G0 = true
  subst c7
  rw [if_pos rfl] at H
  obtain ⟨G1, A8, H⟩ := bes_ H
  try dsimp only at H
  by_cases c9 : G1 = true
  subst c9
  rw [if_pos rfl] at H
  obtain ⟨G2, J7, H⟩ := bes_ H
  try dsimp only at H
  obtain ⟨G3, J8, H⟩ := bes_ H
  try dsimp only at H
  rotate_left
  replace c9 := Bool.eq_false_iff.mpr c9
  subst c9
  rw [if_neg (show ¬ (false = true) by decide)] at H
  rotate_left
  replace c7 := Bool.eq_false_iff.mpr c7
  subst c7
  rw [if_neg (show ¬ (false = true) by decide)] at H
  rotate_left
  all_goals
   have H' := am_ H
   clear H
   try go_wp2
   replace B1 := am_ (blk_drew B1.out)
   replace B0 := am_ (blk_drew B0.out)
   replace HB := am_ (below_drew1 HB.out)
   refine start_ (n := 30) (S := fun w' => ce_ w' Bf 0 (.slice Df Bg.length Dg) ∧ ce_ w' Bf 1 (.slice Dh Bh.length Di) ∧ ce_ w' Bf 2 (.slice Dj B9.length Dk) ∧ ce_ w' Bf 3 (.slice Dl Be.length Dm) ∧ ce_ w' Bf 4 (.slice Dn Ba.length Do) ∧ ce_ w' Bf 5 (.slice Dp B5.length Dq) ∧ ce_ w' B7 0 (.int .i64 Bk) ∧ ce_ w' B7 1 (.int .i64 Bo) ∧ ce_ w' B7 2 (.int .i64 Bp) ∧ ce_ w' B7 3 (.int .i64 Bq) ∧ ce_ w' B7 4 (.int .i64 Br) ∧ ce_ w' B7 5 (.int .i64 Bs) ∧ ce_ w' B7 6 (.int .i64 Bt) ∧ ce_ w' B7 7 (.int .i64 Bu) ∧ ce_ w' B7 8 (.int .i64 Bv) ∧ ce_ w' B7 9 (.int .i64 Bw) ∧ ce_ w' B7 10 (.slice Bx Bd.length By)) (ds := []) #[false, false, false, false, false, false, false, false, false, false, false, false, false, false, false, false, false, false, false, false, false, false, false, false, false, false, false, false, false, false] (by kernel_rfl) rfl rfl ⟨(blk_cell B0.out 0).trans rfl, (blk_cell B0.out 1).trans rfl, (blk_cell B0.out 2).trans rfl, (blk_cell B0.out 3).trans rfl, (blk_cell B0.out 4).trans rfl, (blk_cell B0.out 5).trans rfl, (blk_cell B1.out 0).trans rfl, (blk_cell B1.out 1).trans rfl, (blk_cell B1.out 2).trans rfl, (blk_cell B1.out 3).trans rfl, (blk_cell B1.out 4).trans rfl, (blk_cell B1.out 5).trans rfl, (blk_cell B1.out 6).trans rfl, (blk_cell B1.out 7).trans rfl, (blk_cell B1.out 8).trans rfl, (blk_cell B1.out 9).trans rfl, (blk_cell B1.out 10).trans rfl⟩ (fun hHeld => ?_); refine with_tabW r33_tick.tab1 r33_tick.bits1 (fun HT_ HW_ => ?_)
   generalize w5.drew = w12 at B1 B0 HB hHeld ⊢
   refine pur_ 0 (some 7) rfl rfl (any_of HT_.out (by kernel_rfl)) ?_
   refine pur_ 2 (some 9) rfl rfl (any_of HT_.out (by kernel_rfl)) ?_
   refine tak_ 1 (some 8) rfl rfl (take_ofW HT_.out HW_.out (by kernel_rfl)) hHeld ?_ (by rintro w' ⟨s0, s1, s2, s3, s4, s5, s6, s7, s8, s9, s10, s11, s12, s13, s14, s15, s16⟩; go_simp; with_reducible rfl)
   refine tak_ 3 (some 10) rfl rfl (take_ofW HT_.out HW_.out (by kernel_rfl)) hHeld ?_ (by rintro w' ⟨s0, s1, s2, s3, s4, s5, s6, s7, s8, s9, s10, s11, s12, s13, s14, s15, s16⟩; go_simp; with_reducible rfl)
   refine oon_ 4 (some 11) rfl rfl (one_of HT_.out (by kernel_rfl)) (fun K hK => ?_)
   refine gos_ Try.func77 (r33_within.calls k _ _ Bg Bk _ _ ?side1 D0.out A6.out) ?_
   (case side1 => repeat (first | exact (Kd.C_below Bz.out HB.out) | (with_reducible refine Kd.C_alloc ?_ _) | (with_reducible refine Kd.C_drewN ?_ _) | (with_reducible refine Kd.C_drew ?_)))
   rintro e w' ⟨rfl, ⟨nd, rfl⟩⟩
   refine ⟨_, rfl, ?_⟩
   refine hK.out _ _ (and_6 B0.out (cells_11 B1.out)) (fun hHeld => ?_)
   clear hK K
   refine nor_ 11 ?_
   refine pur_ 5 (some 12) rfl rfl (any_of HT_.out (by kernel_rfl)) ?_
   refine pur_ 6 (some 13) rfl rfl (any_of HT_.out (by kernel_rfl)) ?_
  iterate 2
   focus
    refine pur_ 7 (some 14) rfl rfl (any_of HT_.out (by kernel_rfl)) ?_
    refine pur_ 9 (some 16) rfl rfl (any_of HT_.out (by kernel_rfl)) ?_
    refine pur_ 11 (some 18) rfl rfl (any_of HT_.out (by kernel_rfl)) ?_
    refine tak_ 8 (some 15) rfl rfl (take_ofW HT_.out HW_.out (by kernel_rfl)) hHeld ?_ (by rintro w' ⟨s0, s1, s2, s3, s4, s5, s6, s7, s8, s9, s10, s11, s12, s13, s14, s15, s16⟩; go_simp; with_reducible rfl)
    refine tak_ 10 (some 17) rfl rfl (take_ofW HT_.out HW_.out (by kernel_rfl)) hHeld ?_ (by rintro w' ⟨s0, s1, s2, s3, s4, s5, s6, s7, s8, s9, s10, s11, s12, s13, s14, s15, s16⟩; go_simp; with_reducible rfl)
    refine tak_ 12 (some 19) rfl rfl (take_ofW HT_.out HW_.out (by kernel_rfl)) hHeld ?_ (by rintro w' ⟨s0, s1, s2, s3, s4, s5, s6, s7, s8, s9, s10, s11, s12, s13, s14, s15, s16⟩; go_simp; with_reducible rfl)
    refine pur_ 13 (some 20) rfl rfl (any_of HT_.out (by kernel_rfl)) ?_
    refine oon_ 14 (some 21) rfl rfl (one_of HT_.out (by kernel_rfl)) (fun K hK => ?_)
    refine gos_ Try.func77 (r33_within.calls k _ _ Bh (wrap64 (Bk * Bk)) _ _ ?side1 D2.out A8.out) ?_
    (case side1 => repeat (first | exact (Kd.C_below D1.out (by repeat (first | (with_reducible first | exact HB.out | apply ba_ | apply bn_ | apply bd_ | refine bs_ ?_ B2.out | refine bs_ ?_ B3.out) | exact HB.out))) | (with_reducible refine Kd.C_alloc ?_ _) | (with_reducible refine Kd.C_drewN ?_ _) | (with_reducible refine Kd.C_drew ?_)))
    rintro e w' ⟨rfl, ⟨nd, rfl⟩⟩
    refine ⟨_, rfl, ?_⟩
    refine hK.out _ _ (and_6 B0.out (cells_11 B1.out)) (fun hHeld => ?_)
    clear hK K
    refine nor_ 21 ?_
    refine pur_ 15 (some 22) rfl rfl (any_of HT_.out (by kernel_rfl)) ?_
    refine pur_ 16 (some 23) rfl rfl (any_of HT_.out (by kernel_rfl)) ?_
    refine pur_ 17 (some 24) rfl rfl (any_of HT_.out (by kernel_rfl)) ?_
   rotate_left
  rotate_left 1
  ·refine pur_ 20 (some 27) rfl rfl (any_of HT_.out (by kernel_rfl)) ?_
   refine pur_ 23 (some 30) rfl rfl (any_of HT_.out (by kernel_rfl)) ?_
   refine tak_ 18 (some 25) rfl rfl (take_ofW HT_.out HW_.out (by kernel_rfl)) hHeld ?_ (by rintro w' ⟨s0, s1, s2, s3, s4, s5, s6, s7, s8, s9, s10, s11, s12, s13, s14, s15, s16⟩; go_simp; with_reducible rfl)
   refine tak_ 21 (some 28) rfl rfl (take_ofW HT_.out HW_.out (by kernel_rfl)) hHeld ?_ (by rintro w' ⟨s0, s1, s2, s3, s4, s5, s6, s7, s8, s9, s10, s11, s12, s13, s14, s15, s16⟩; go_simp; with_reducible rfl)
   refine pur_ 22 (some 29) rfl rfl (any_of HT_.out (by kernel_rfl)) ?_
   refine tak_ 24 (some 31) rfl rfl (take_ofW HT_.out HW_.out (by kernel_rfl)) hHeld ?_ (by rintro w' ⟨s0, s1, s2, s3, s4, s5, s6, s7, s8, s9, s10, s11, s12, s13, s14, s15, s16⟩; go_simp; with_reducible rfl)
   refine pur_ 25 (some 32) rfl rfl (any_of HT_.out (by kernel_rfl)) ?_
   refine pur_ 26 (some 33) rfl rfl (any_of HT_.out (by kernel_rfl)) ?_
   refine oon_ 19 (some 26) rfl rfl (one_of HT_.out (by kernel_rfl)) (fun K hK => ?_)
   refine gos_ Try.func78 (r33_waits.calls k _ _ Bg _ _ Bh _ _ B9 _ _ Be _ _ Ba _ _ B5 _ _ ?side1 D0.out ?side3 D2.out ?side5 D6.out ?side7 D8.out ?side9 Da.out ?side11 Db.out J7.out) ?_
   (case side1 => repeat (first | exact (Kd.C_below Bz.out (by repeat (first | (with_reducible first | exact HB.out | apply ba_ | apply bn_ | apply bd_ | refine bs_ ?_ B2.out | refine bs_ ?_ B3.out) | exact HB.out))) | (with_reducible refine Kd.C_alloc ?_ _) | (with_reducible refine Kd.C_drewN ?_ _) | (with_reducible refine Kd.C_drew ?_)))
   (case side3 => repeat (first | exact (Kd.C_below D1.out (by repeat (first | (with_reducible first | exact HB.out | apply ba_ | apply bn_ | apply bd_ | refine bs_ ?_ B2.out | refine bs_ ?_ B3.out) | exact HB.out))) | (with_reducible refine Kd.C_alloc ?_ _) | (with_reducible refine Kd.C_drewN ?_ _) | (with_reducible refine Kd.C_drew ?_)))
   (case side5 => repeat (first | exact (Kd.C_below D5.out (by repeat (first | (with_reducible first | exact HB.out | apply ba_ | apply bn_ | apply bd_ | refine bs_ ?_ B2.out | refine bs_ ?_ B3.out) | exact HB.out))) | (with_reducible refine Kd.C_alloc ?_ _) | (with_reducible refine Kd.C_drewN ?_ _) | (with_reducible refine Kd.C_drew ?_)))
   (case side7 => repeat (first | exact (Kd.C_below D7.out (by repeat (first | (with_reducible first | exact HB.out | apply ba_ | apply bn_ | apply bd_ | refine bs_ ?_ B2.out | refine bs_ ?_ B3.out) | exact HB.out))) | (with_reducible refine Kd.C_alloc ?_ _) | (with_reducible refine Kd.C_drewN ?_ _) | (with_reducible refine Kd.C_drew ?_)))
   (case side9 => repeat (first | exact (Kd.C_below D9.out (by repeat (first | (with_reducible first | exact HB.out | apply ba_ | apply bn_ | apply bd_ | refine bs_ ?_ B2.out | refine bs_ ?_ B3.out) | exact HB.out))) | (with_reducible refine Kd.C_alloc ?_ _) | (with_reducible refine Kd.C_drewN ?_ _) | (with_reducible refine Kd.C_drew ?_)))
   (case side11 => repeat (first | exact (Kd.C_below Bn.out (by repeat (first | (with_reducible first | exact HB.out | apply ba_ | apply bn_ | apply bd_ | refine bs_ ?_ B2.out | refine bs_ ?_ B3.out) | exact HB.out))) | (with_reducible refine Kd.C_alloc ?_ _) | (with_reducible refine Kd.C_drewN ?_ _) | (with_reducible refine Kd.C_drew ?_)))
   rintro e w13 ⟨v406, rfl, G7, hb⟩
   refine ⟨_, rfl, ?_⟩
   have Dc := below_of hb (by repeat (first | (with_reducible first | exact HB.out | apply ba_ | apply bn_ | apply bd_ | refine bs_ ?_ B2.out | refine bs_ ?_ B3.out) | exact HB.out))
   have Dz := am_ (Kd.R_lower G7 (below_size Dc))
   replace B1 := am_ (blk_below (by (with_reducible repeat (first | apply kn_ | apply kd_ | apply ka_)); exact B1.out) hb)
   replace B0 := am_ (blk_below (by (with_reducible repeat (first | apply kn_ | apply kd_ | apply ka_)); exact B0.out) hb)
   replace HB := am_ (below_step Dc hb)
   clear Dc
   (try clear hb)
   (try clear hb2)
   (try clear hk)
   (try clear hi)
   (try clear G7)
   obtain ⟨J9, Ja, F2⟩ := Kd.R_slice Dz.out
   (first | subst F2 | (injection F2 with f1_ f2_ f3_; have Jb := f1_.symm; have Jc := f3_.symm; clear f1_ f2_ f3_; subst Jb; subst Jc))
   refine hK.out _ _ (and_6 B0.out (cells_11 B1.out)) (fun hHeld => ?_)
   clear hK K
   refine nor_ 26 ?_
   refine oon_ 27 (some 34) rfl rfl (one_of HT_.out (by kernel_rfl)) (fun K hK => ?_)
   refine gos_ Try.func77 (r33_within.calls k _ _ G2 (wrap64 ((B9.length : Int) + (Ba.length : Int))) _ _ ?side1 (Kd.R_reads' Dz.out).2.1 J8.out) ?_
   (case side1 => repeat (first | exact (Kd.R_reads' Dz.out).2.2 | (with_reducible refine Kd.C_alloc ?_ _) | (with_reducible refine Kd.C_drewN ?_ _) | (with_reducible refine Kd.C_drew ?_)))
   rintro e w' ⟨rfl, ⟨nd, rfl⟩⟩
   refine ⟨_, rfl, ?_⟩
   refine hK.out _ _ (and_6 B0.out (cells_11 B1.out)) (fun hHeld => ?_)
   clear hK K
   refine nor_ 34 ?_
   refine pur_ 28 (some 35) rfl rfl (any_of HT_.out (by kernel_rfl)) ?_
   refine pur_ 29 (some 36) rfl rfl (any_of HT_.out (by kernel_rfl)) ?_
   refine done_ (done_of HT_.out (by kernel_rfl)) ?_
   try go_wp2
   go_meet
   case rel => exact ⟨_, (!G3), (by first | rfl | (simp; done) | (simp [*]; done)), H', ⟨by first | omega | exact Nat.le_refl _⟩, ⟨by (with_reducible repeat (first | apply kn_ | apply kd_ | apply ka_)); exact B1.out⟩, ⟨by (with_reducible repeat (first | apply kn_ | apply kd_ | apply ka_)); exact B0.out⟩, ⟨by repeat (first | (with_reducible first | exact HB.out | apply ba_ | apply bn_ | apply bd_ | refine bs_ ?_ B2.out | refine bs_ ?_ B3.out) | exact HB.out)⟩⟩
  ·refine puu_ 18 (some 25) rfl rfl (any_of HT_.out (by kernel_rfl)) ?_
   refine puu_ 19 (some 26) rfl rfl (any_of HT_.out (by kernel_rfl)) ?_
   refine puu_ 20 (some 27) rfl rfl (any_of HT_.out (by kernel_rfl)) ?_
   refine puu_ 21 (some 28) rfl rfl (any_of HT_.out (by kernel_rfl)) ?_
   refine puu_ 22 (some 29) rfl rfl (any_of HT_.out (by kernel_rfl)) ?_
   refine puu_ 23 (some 30) rfl rfl (any_of HT_.out (by kernel_rfl)) ?_
   refine puu_ 24 (some 31) rfl rfl (any_of HT_.out (by kernel_rfl)) ?_
   refine puu_ 25 (some 32) rfl rfl (any_of HT_.out (by kernel_rfl)) ?_
   refine puu_ 26 (some 33) rfl rfl (any_of HT_.out (by kernel_rfl)) ?_
   refine puu_ 27 (some 34) rfl rfl (any_of HT_.out (by kernel_rfl)) ?_
   refine puu_ 28 (some 35) rfl rfl (any_of HT_.out (by kernel_rfl)) ?_
   refine pur_ 29 (some 36) rfl rfl (any_of HT_.out (by kernel_rfl)) ?_
   refine done_ (done_of HT_.out (by kernel_rfl)) ?_
   try go_wp2
   go_meet
   case rel => exact ⟨_, (true), (by first | rfl | (simp; done) | (simp [*]; done)), H', ⟨by first | omega | exact Nat.le_refl _⟩, ⟨by (with_reducible repeat (first | apply kn_ | apply kd_ | apply ka_)); exact B1.out⟩, ⟨by (with_reducible repeat (first | apply kn_ | apply kd_ | apply ka_)); exact B0.out⟩, ⟨by repeat (first | (with_reducible first | exact HB.out | apply ba_ | apply bn_ | apply bd_ | refine bs_ ?_ B2.out | refine bs_ ?_ B3.out) | exact HB.out)⟩⟩
  ·refine puu_ 7 (some 14) rfl rfl (any_of HT_.out (by kernel_rfl)) ?_
   refine puu_ 8 (some 15) rfl rfl (any_of HT_.out (by kernel_rfl)) ?_
   refine puu_ 9 (some 16) rfl rfl (any_of HT_.out (by kernel_rfl)) ?_
   refine puu_ 10 (some 17) rfl rfl (any_of HT_.out (by kernel_rfl)) ?_
   refine puu_ 11 (some 18) rfl rfl (any_of HT_.out (by kernel_rfl)) ?_
   refine puu_ 12 (some 19) rfl rfl (any_of HT_.out (by kernel_rfl)) ?_
   refine puu_ 13 (some 20) rfl rfl (any_of HT_.out (by kernel_rfl)) ?_
   refine puu_ 14 (some 21) rfl rfl (any_of HT_.out (by kernel_rfl)) ?_
   refine puu_ 15 (some 22) rfl rfl (any_of HT_.out (by kernel_rfl)) ?_
   refine pur_ 16 (some 23) rfl rfl (any_of HT_.out (by kernel_rfl)) ?_
   refine pur_ 17 (some 24) rfl rfl (any_of HT_.out (by kernel_rfl)) ?_
   refine puu_ 18 (some 25) rfl rfl (any_of HT_.out (by kernel_rfl)) ?_
   refine puu_ 19 (some 26) rfl rfl (any_of HT_.out (by kernel_rfl)) ?_
   refine puu_ 20 (some 27) rfl rfl (any_of HT_.out (by kernel_rfl)) ?_
   refine puu_ 21 (some 28) rfl rfl (any_of HT_.out (by kernel_rfl)) ?_
   refine puu_ 22 (some 29) rfl rfl (any_of HT_.out (by kernel_rfl)) ?_
   refine puu_ 23 (some 30) rfl rfl (any_of HT_.out (by kernel_rfl)) ?_
   refine puu_ 24 (some 31) rfl rfl (any_of HT_.out (by kernel_rfl)) ?_
   refine puu_ 25 (some 32) rfl rfl (any_of HT_.out (by kernel_rfl)) ?_
   refine puu_ 26 (some 33) rfl rfl (any_of HT_.out (by kernel_rfl)) ?_
   refine puu_ 27 (some 34) rfl rfl (any_of HT_.out (by kernel_rfl)) ?_
   refine puu_ 28 (some 35) rfl rfl (any_of HT_.out (by kernel_rfl)) ?_
   refine pur_ 29 (some 36) rfl rfl (any_of HT_.out (by kernel_rfl)) ?_
   refine done_ (done_of HT_.out (by kernel_rfl)) ?_
   try go_wp2
   go_meet
   case rel => exact ⟨_, (true), (by first | rfl | (simp; done) | (simp [*]; done)), H', ⟨by first | omega | exact Nat.le_refl _⟩, ⟨by (with_reducible repeat (first | apply kn_ | apply kd_ | apply ka_)); exact B1.out⟩, ⟨by (with_reducible repeat (first | apply kn_ | apply kd_ | apply ka_)); exact B0.out⟩, ⟨by repeat (first | (with_reducible first | exact HB.out | apply ba_ | apply bn_ | apply bd_ | refine bs_ ?_ B2.out | refine bs_ ?_ B3.out) | exact HB.out)⟩⟩
 case rest =>
  clear Fz
  try clear c1
  try clear p2
  try clear p6
  try clear c7
  try clear c9
  obtain ⟨kq, Dw, rfl, HA, Ew, B1, B0, HB⟩ := hcut
  cases kq with
  | zero => exact absurd HA.out (by simp [r33_tick.j0])
  | succ Jd =>
   have H := HA.out
   clear HA
   simp only [r33_tick.j0] at H
   by_cases Ex : Dw = true
   ·subst Ex
    rw [if_pos rfl] at H
    obtain rfl := Option.some.inj H
    go_wp2
    go_ret
    exact ⟨by first | rfl | (simp [*] <;> rfl), by repeat (first | (with_reducible first | exact HB.out | apply ba_ | apply bn_ | apply bd_ | refine bs_ ?_ B2.out | refine bs_ ?_ B3.out) | exact HB.out)⟩
   ·replace Ex := Bool.eq_false_iff.mpr Ex
    subst Ex
    rw [if_neg (show ¬ (false = true) by decide)] at H
    have Eu := am_ H
    clear H
    go_upto_region 3 with (fail)
    go_cut [58] (fun v58 wc => ∃ (kq : Nat) (Dd : Bool), v58 = .bool Dd ∧ Aside0 (r33_tick.j1 kq Dd Bk Bo Bp Bq Br Bs Bt Bu Bv Bw Bd Bg Bh B9 Be Ba B5 = some r) ∧ Aside0 (kq ≤ Jd) ∧ Aside0 (wc.heap[B7]? = some (.cells #[.int .i64 Bk, .int .i64 Bo, .int .i64 Bp, .int .i64 Bq, .int .i64 Br, .int .i64 Bs, .int .i64 Bt, .int .i64 Bu, .int .i64 Bv, .int .i64 Bw, (.slice Bx Bd.length By)] 24 (0, 0))) ∧ Aside0 (wc.heap[Bf]? = some (.cells #[(.slice Df Bg.length Dg), (.slice Dh Bh.length Di), (.slice Dj B9.length Dk), (.slice Dl Be.length Dm), (.slice Dn Ba.length Do), (.slice Dp B5.length Dq)] 44 (0, 0))) ∧ Aside0 (Below w.heap.size w wc))
    case first =>
     have H := Eu.out
     clear Eu
     by_cases Ej : (B9.length : Int) > 40
     ·rw [if_pos Ej] at H
      have D3 : decide (40 < (B9.length : Int)) = true := decide_eq_true Ej
      have E0 : decide (40 < B9.length) = true := decide_eq_true (by omega)
      clear Ej
      (first | rw [D3] | (simp only [i64_w, i32_w]; rw [D3]) | skip)
      have H' := am_ H
      clear H
      have G8 := B8.out
      have G9 := B6.out
      have Ek := cells_6 B0.out
      have El := frozen_6 B0.out
      go_wp2
      go_meet
      case rel => exact ⟨_, (true), (by first | rfl | (simp; done) | (simp [*]; done)), H', ⟨by have := Ew.out; first | omega | exact Nat.le_refl _⟩, ⟨by (with_reducible repeat (first | apply kn_ | apply kd_ | apply ka_)); exact B1.out⟩, ⟨by (with_reducible repeat (first | apply kn_ | apply kd_ | apply ka_)); exact B0.out⟩, ⟨by repeat (first | (with_reducible first | exact HB.out | apply ba_ | apply bn_ | apply bd_ | refine bs_ ?_ B2.out | refine bs_ ?_ B3.out) | exact HB.out)⟩⟩
     ·rw [if_neg Ej] at H
      have D3 : decide (40 < (B9.length : Int)) = false := decide_eq_false Ej
      have E0 : decide (40 < B9.length) = false := decide_eq_false (by omega)
      clear Ej
      (first | rw [D3] | (simp only [i64_w, i32_w]; rw [D3]) | skip)
      by_cases Em : (Be.length : Int) > 40
      ·rw [if_pos Em] at H
       have E1 : decide (40 < (Be.length : Int)) = true := decide_eq_true Em
       have E2 : decide (40 < Be.length) = true := decide_eq_true (by omega)
       clear Em
       have H' := am_ H
       clear H
       have Ga := B8.out
       have Gb := B6.out
       have En := cells_6 B0.out
       have Eo := frozen_6 B0.out
       go_wp2
       go_meet
       case rel => exact ⟨_, (true), (by first | rfl | (simp; done) | (simp [*]; done)), H', ⟨by have := Ew.out; first | omega | exact Nat.le_refl _⟩, ⟨by (with_reducible repeat (first | apply kn_ | apply kd_ | apply ka_)); exact B1.out⟩, ⟨by (with_reducible repeat (first | apply kn_ | apply kd_ | apply ka_)); exact B0.out⟩, ⟨by repeat (first | (with_reducible first | exact HB.out | apply ba_ | apply bn_ | apply bd_ | refine bs_ ?_ B2.out | refine bs_ ?_ B3.out) | exact HB.out)⟩⟩
      ·rw [if_neg Em] at H
       have E1 : decide (40 < (Be.length : Int)) = false := decide_eq_false Em
       have E2 : decide (40 < Be.length) = false := decide_eq_false (by omega)
       clear Em
       by_cases Ep : (Ba.length : Int) > 40
       ·rw [if_pos Ep] at H
        have E3 : decide (40 < (Ba.length : Int)) = true := decide_eq_true Ep
        have E4 : decide (40 < Ba.length) = true := decide_eq_true (by omega)
        clear Ep
        have H' := am_ H
        clear H
        have Gc := B8.out
        have Gd := B6.out
        have Eq := cells_6 B0.out
        have Er := frozen_6 B0.out
        go_wp2
        go_meet
        case rel => exact ⟨_, (true), (by first | rfl | (simp; done) | (simp [*]; done)), H', ⟨by have := Ew.out; first | omega | exact Nat.le_refl _⟩, ⟨by (with_reducible repeat (first | apply kn_ | apply kd_ | apply ka_)); exact B1.out⟩, ⟨by (with_reducible repeat (first | apply kn_ | apply kd_ | apply ka_)); exact B0.out⟩, ⟨by repeat (first | (with_reducible first | exact HB.out | apply ba_ | apply bn_ | apply bd_ | refine bs_ ?_ B2.out | refine bs_ ?_ B3.out) | exact HB.out)⟩⟩
       ·rw [if_neg Ep] at H
        have E3 : decide (40 < (Ba.length : Int)) = false := decide_eq_false Ep
        have E4 : decide (40 < Ba.length) = false := decide_eq_false (by omega)
        clear Ep
        have H' := am_ H
        clear H
        have Ge := B8.out
        have Gf := B6.out
        have Es := cells_6 B0.out
        have Et := frozen_6 B0.out
        go_wp2
        go_meet
        case rel => exact ⟨_, (decide ((B5.length : Int) > 40)), (by first | rfl | (simp; done) | (simp [*]; done)), H', ⟨by have := Ew.out; first | omega | exact Nat.le_refl _⟩, ⟨by (with_reducible repeat (first | apply kn_ | apply kd_ | apply ka_)); exact B1.out⟩, ⟨by (with_reducible repeat (first | apply kn_ | apply kd_ | apply ka_)); exact B0.out⟩, ⟨by repeat (first | (with_reducible first | exact HB.out | apply ba_ | apply bn_ | apply bd_ | refine bs_ ?_ B2.out | refine bs_ ?_ B3.out) | exact HB.out)⟩⟩
    case rest =>
     clear Eu
     try clear c1
     try clear c2
     try clear p2
     try clear p6
     try clear c7
     try clear c9
     try clear Ex
     try clear Ej
     try clear D3
     try clear E0
     try clear c20
     try clear Em
     try clear E1
     try clear E2
     try clear c23
     try clear Ep
     try clear E3
     try clear E4
     try clear c26
     try clear c28
     try clear Ek
     try clear En
     try clear Eq
     try clear Es
     try clear El
     try clear Eo
     try clear Er
     try clear Et
     try clear p2
     try clear p6
     obtain ⟨kq, Dd, rfl, HA, F3, B1, B0, HB⟩ := hcut
     cases kq with
     | zero => exact absurd HA.out (by simp [r33_tick.j1])
     | succ Dt =>
      have H := HA.out
      clear HA
      simp only [r33_tick.j1] at H
      by_cases F4 : Dd = true
      ·subst F4
       rw [if_pos rfl] at H
       obtain rfl := Option.some.inj H
       go_wp2
       go_ret
       exact ⟨by first | rfl | (simp [*] <;> rfl), by repeat (first | (with_reducible first | exact HB.out | apply ba_ | apply bn_ | apply bd_ | refine bs_ ?_ B2.out | refine bs_ ?_ B3.out) | exact HB.out)⟩
      ·replace F4 := Bool.eq_false_iff.mpr F4
       subst F4
       rw [if_neg (show ¬ (false = true) by decide)] at H
       obtain ⟨G4, G5, H⟩ := bes_ H
       try dsimp only at H
       by_cases F5 : G4 = true
       ·subst F5
        rw [if_pos rfl] at H
        obtain ⟨G6, Gg, H⟩ := bes_ H
        try dsimp only at H
        by_cases F6 : G6 = true
        ·subst F6
         rw [if_pos rfl] at H
         obtain rfl := Option.some.inj H
         have Gh := B6.out
         have Gi := B8.out
         have F7 := cells_11 B1.out
         have F8 := frozen_11 B1.out
         have F9 := cells_6 B0.out
         have Fa := frozen_6 B0.out
         go_wp2_with (first | ((with_reducible refine gate_callee (f := 79) rfl ?_); refine gom_ (some 61) Try.func79 (r33_nodes.calls Dt Bk Bo Bp Bq Br Bs Bt Bu Bv Bw _ _ Bd _ _ Bg _ _ Bh _ _ B9 _ _ Be _ _ Ba _ _ B5 _ _ ?side1 Ds.out ?side3 D0.out ?side5 D2.out ?side7 D6.out ?side9 D8.out ?side11 Da.out ?side13 Db.out G5.out) ?_; (case side1 => repeat (first | exact (Kd.C_below Dr.out HB.out) | (with_reducible refine Kd.C_alloc ?_ _) | (with_reducible refine Kd.C_drewN ?_ _) | (with_reducible refine Kd.C_drew ?_))); (case side3 => repeat (first | exact (Kd.C_below Bz.out HB.out) | (with_reducible refine Kd.C_alloc ?_ _) | (with_reducible refine Kd.C_drewN ?_ _) | (with_reducible refine Kd.C_drew ?_))); (case side5 => repeat (first | exact (Kd.C_below D1.out HB.out) | (with_reducible refine Kd.C_alloc ?_ _) | (with_reducible refine Kd.C_drewN ?_ _) | (with_reducible refine Kd.C_drew ?_))); (case side7 => repeat (first | exact (Kd.C_below D5.out HB.out) | (with_reducible refine Kd.C_alloc ?_ _) | (with_reducible refine Kd.C_drewN ?_ _) | (with_reducible refine Kd.C_drew ?_))); (case side9 => repeat (first | exact (Kd.C_below D7.out HB.out) | (with_reducible refine Kd.C_alloc ?_ _) | (with_reducible refine Kd.C_drewN ?_ _) | (with_reducible refine Kd.C_drew ?_))); (case side11 => repeat (first | exact (Kd.C_below D9.out HB.out) | (with_reducible refine Kd.C_alloc ?_ _) | (with_reducible refine Kd.C_drewN ?_ _) | (with_reducible refine Kd.C_drew ?_))); (case side13 => repeat (first | exact (Kd.C_below Bn.out HB.out) | (with_reducible refine Kd.C_alloc ?_ _) | (with_reducible refine Kd.C_drewN ?_ _) | (with_reducible refine Kd.C_drew ?_))); rintro e w38 ⟨rfl, hb⟩; refine ⟨_, rfl, ?_⟩; replace B1 := am_ (blk_below (by (with_reducible repeat (first | apply kn_ | apply kd_ | apply ka_)); exact B1.out) hb); replace B0 := am_ (blk_below (by (with_reducible repeat (first | apply kn_ | apply kd_ | apply ka_)); exact B0.out) hb); replace HB := am_ (below_step (by repeat (first | (with_reducible first | exact HB.out | apply ba_ | apply bn_ | apply bd_ | refine bs_ ?_ B2.out | refine bs_ ?_ B3.out) | exact HB.out)) hb); (try clear hb); have Fb := cells_6 B0.out; have Fc := frozen_6 B0.out) | ((with_reducible refine gate_callee (f := 80) rfl ?_); refine gom_ (some 64) Try.func80 (r33_long.calls Dt _ _ Bg _ _ Bh _ _ B9 _ _ Be _ _ Ba _ _ B5 _ _ ?side1 D0.out ?side3 D2.out ?side5 D6.out ?side7 D8.out ?side9 Da.out ?side11 Db.out Gg.out) ?_; (case side1 => repeat (first | exact (Kd.C_below Bz.out HB.out) | (with_reducible refine Kd.C_alloc ?_ _) | (with_reducible refine Kd.C_drewN ?_ _) | (with_reducible refine Kd.C_drew ?_))); (case side3 => repeat (first | exact (Kd.C_below D1.out HB.out) | (with_reducible refine Kd.C_alloc ?_ _) | (with_reducible refine Kd.C_drewN ?_ _) | (with_reducible refine Kd.C_drew ?_))); (case side5 => repeat (first | exact (Kd.C_below D5.out HB.out) | (with_reducible refine Kd.C_alloc ?_ _) | (with_reducible refine Kd.C_drewN ?_ _) | (with_reducible refine Kd.C_drew ?_))); (case side7 => repeat (first | exact (Kd.C_below D7.out HB.out) | (with_reducible refine Kd.C_alloc ?_ _) | (with_reducible refine Kd.C_drewN ?_ _) | (with_reducible refine Kd.C_drew ?_))); (case side9 => repeat (first | exact (Kd.C_below D9.out HB.out) | (with_reducible refine Kd.C_alloc ?_ _) | (with_reducible refine Kd.C_drewN ?_ _) | (with_reducible refine Kd.C_drew ?_))); (case side11 => repeat (first | exact (Kd.C_below Bn.out HB.out) | (with_reducible refine Kd.C_alloc ?_ _) | (with_reducible refine Kd.C_drewN ?_ _) | (with_reducible refine Kd.C_drew ?_))); rintro e w40 ⟨rfl, hb⟩; refine ⟨_, rfl, ?_⟩; replace B1 := am_ (blk_below (by (with_reducible repeat (first | apply kn_ | apply kd_ | apply ka_)); exact B1.out) hb); replace B0 := am_ (blk_below (by (with_reducible repeat (first | apply kn_ | apply kd_ | apply ka_)); exact B0.out) hb); replace HB := am_ (below_step (by repeat (first | (with_reducible first | exact HB.out | apply ba_ | apply bn_ | apply bd_ | refine bs_ ?_ B2.out | refine bs_ ?_ B3.out) | exact HB.out)) hb); (try clear hb)))
         go_ret
         exact ⟨by first | rfl | (simp [*] <;> rfl), by repeat (first | (with_reducible first | exact HB.out | apply ba_ | apply bn_ | apply bd_ | refine bs_ ?_ B2.out | refine bs_ ?_ B3.out) | exact HB.out)⟩
        ·replace F6 := Bool.eq_false_iff.mpr F6
         subst F6
         rw [if_neg (show ¬ (false = true) by decide)] at H
         have H' := am_ H
         clear H
         have Gj := B6.out
         have Gk := B8.out
         have Fd := cells_11 B1.out
         have Fe := frozen_11 B1.out
         have Ff := cells_6 B0.out
         have Fg := frozen_6 B0.out
         go_wp2_with (first | ((with_reducible refine gate_callee (f := 79) rfl ?_); refine gom_ (some 61) Try.func79 (r33_nodes.calls Dt Bk Bo Bp Bq Br Bs Bt Bu Bv Bw _ _ Bd _ _ Bg _ _ Bh _ _ B9 _ _ Be _ _ Ba _ _ B5 _ _ ?side1 Ds.out ?side3 D0.out ?side5 D2.out ?side7 D6.out ?side9 D8.out ?side11 Da.out ?side13 Db.out G5.out) ?_; (case side1 => repeat (first | exact (Kd.C_below Dr.out HB.out) | (with_reducible refine Kd.C_alloc ?_ _) | (with_reducible refine Kd.C_drewN ?_ _) | (with_reducible refine Kd.C_drew ?_))); (case side3 => repeat (first | exact (Kd.C_below Bz.out HB.out) | (with_reducible refine Kd.C_alloc ?_ _) | (with_reducible refine Kd.C_drewN ?_ _) | (with_reducible refine Kd.C_drew ?_))); (case side5 => repeat (first | exact (Kd.C_below D1.out HB.out) | (with_reducible refine Kd.C_alloc ?_ _) | (with_reducible refine Kd.C_drewN ?_ _) | (with_reducible refine Kd.C_drew ?_))); (case side7 => repeat (first | exact (Kd.C_below D5.out HB.out) | (with_reducible refine Kd.C_alloc ?_ _) | (with_reducible refine Kd.C_drewN ?_ _) | (with_reducible refine Kd.C_drew ?_))); (case side9 => repeat (first | exact (Kd.C_below D7.out HB.out) | (with_reducible refine Kd.C_alloc ?_ _) | (with_reducible refine Kd.C_drewN ?_ _) | (with_reducible refine Kd.C_drew ?_))); (case side11 => repeat (first | exact (Kd.C_below D9.out HB.out) | (with_reducible refine Kd.C_alloc ?_ _) | (with_reducible refine Kd.C_drewN ?_ _) | (with_reducible refine Kd.C_drew ?_))); (case side13 => repeat (first | exact (Kd.C_below Bn.out HB.out) | (with_reducible refine Kd.C_alloc ?_ _) | (with_reducible refine Kd.C_drewN ?_ _) | (with_reducible refine Kd.C_drew ?_))); rintro e w44 ⟨rfl, hb⟩; refine ⟨_, rfl, ?_⟩; replace B1 := am_ (blk_below (by (with_reducible repeat (first | apply kn_ | apply kd_ | apply ka_)); exact B1.out) hb); replace B0 := am_ (blk_below (by (with_reducible repeat (first | apply kn_ | apply kd_ | apply ka_)); exact B0.out) hb); replace HB := am_ (below_step (by repeat (first | (with_reducible first | exact HB.out | apply ba_ | apply bn_ | apply bd_ | refine bs_ ?_ B2.out | refine bs_ ?_ B3.out) | exact HB.out)) hb); (try clear hb); have Fh := cells_6 B0.out; have Fi := frozen_6 B0.out) | ((with_reducible refine gate_callee (f := 80) rfl ?_); refine gom_ (some 64) Try.func80 (r33_long.calls Dt _ _ Bg _ _ Bh _ _ B9 _ _ Be _ _ Ba _ _ B5 _ _ ?side1 D0.out ?side3 D2.out ?side5 D6.out ?side7 D8.out ?side9 Da.out ?side11 Db.out Gg.out) ?_; (case side1 => repeat (first | exact (Kd.C_below Bz.out HB.out) | (with_reducible refine Kd.C_alloc ?_ _) | (with_reducible refine Kd.C_drewN ?_ _) | (with_reducible refine Kd.C_drew ?_))); (case side3 => repeat (first | exact (Kd.C_below D1.out HB.out) | (with_reducible refine Kd.C_alloc ?_ _) | (with_reducible refine Kd.C_drewN ?_ _) | (with_reducible refine Kd.C_drew ?_))); (case side5 => repeat (first | exact (Kd.C_below D5.out HB.out) | (with_reducible refine Kd.C_alloc ?_ _) | (with_reducible refine Kd.C_drewN ?_ _) | (with_reducible refine Kd.C_drew ?_))); (case side7 => repeat (first | exact (Kd.C_below D7.out HB.out) | (with_reducible refine Kd.C_alloc ?_ _) | (with_reducible refine Kd.C_drewN ?_ _) | (with_reducible refine Kd.C_drew ?_))); (case side9 => repeat (first | exact (Kd.C_below D9.out HB.out) | (with_reducible refine Kd.C_alloc ?_ _) | (with_reducible refine Kd.C_drewN ?_ _) | (with_reducible refine Kd.C_drew ?_))); (case side11 => repeat (first | exact (Kd.C_below Bn.out HB.out) | (with_reducible refine Kd.C_alloc ?_ _) | (with_reducible refine Kd.C_drewN ?_ _) | (with_reducible refine Kd.C_drew ?_))); rintro e w46 ⟨rfl, hb⟩; refine ⟨_, rfl, ?_⟩; replace B1 := am_ (blk_below (by (with_reducible repeat (first | apply kn_ | apply kd_ | apply ka_)); exact B1.out) hb); replace B0 := am_ (blk_below (by (with_reducible repeat (first | apply kn_ | apply kd_ | apply ka_)); exact B0.out) hb); replace HB := am_ (below_step (by repeat (first | (with_reducible first | exact HB.out | apply ba_ | apply bn_ | apply bd_ | refine bs_ ?_ B2.out | refine bs_ ?_ B3.out) | exact HB.out)) hb); (try clear hb); have Fj := cells_6 B0.out; have Fk := frozen_6 B0.out))
         go_loopg [68] Dt (fun kq v68 w' => ∃ (B4 : Int), v68 = .int .i64 B4 ∧ Aside0 (r33_tick.l0 kq B5 (B5.length : Int) B4 = some r) ∧ Aside0 (kq ≤ Dt) ∧ Aside0 (w'.heap[B7]? = some (.cells #[.int .i64 Bk, .int .i64 Bo, .int .i64 Bp, .int .i64 Bq, .int .i64 Br, .int .i64 Bs, .int .i64 Bt, .int .i64 Bu, .int .i64 Bv, .int .i64 Bw, (.slice Bx Bd.length By)] 24 (0, 0))) ∧ Aside0 (w'.heap[Bf]? = some (.cells #[(.slice Df Bg.length Dg), (.slice Dh Bh.length Di), (.slice Dj B9.length Dk), (.slice Dl Be.length Dm), (.slice Dn Ba.length Do), (.slice Dp B5.length Dq)] 44 (0, 0))) ∧ Aside0 (Below w.heap.size w w'))
         case atStart => exact ⟨(0), (by first | rfl | (simp; done) | (simp [*]; done)), H', ⟨Nat.le_refl _⟩, ⟨by (with_reducible repeat (first | apply kn_ | apply kd_ | apply ka_)); exact B1.out⟩, ⟨by (with_reducible repeat (first | apply kn_ | apply kd_ | apply ka_)); exact B0.out⟩, ⟨by repeat (first | (with_reducible first | exact HB.out | apply ba_ | apply bn_ | apply bd_ | refine bs_ ?_ B2.out | refine bs_ ?_ B3.out) | exact HB.out)⟩⟩
         case round =>
          clear H'
          try clear c1
          try clear c2
          try clear p2
          try clear c3
          try clear c4
          try clear p6
          try clear c7
          try clear c8
          try clear c9
          try clear Ex
          try clear Ej
          try clear D3
          try clear E0
          try clear c20
          try clear Em
          try clear E1
          try clear E2
          try clear c23
          try clear Ep
          try clear E3
          try clear E4
          try clear c26
          try clear c28
          try clear F4
          try clear F5
          try clear F6
          try clear c35
          try clear c41
          try clear Ek
          try clear En
          try clear Eq
          try clear Es
          try clear F7
          try clear F9
          try clear Fb
          try clear Fd
          try clear Ff
          try clear Fh
          try clear Fj
          try clear El
          try clear Eo
          try clear Er
          try clear Et
          try clear F8
          try clear Fa
          try clear Fc
          try clear Fe
          try clear Fg
          try clear Fi
          try clear Fk
          try clear p2
          try clear p6
          obtain ⟨B4, rfl, HA, Gl, B1, B0, HB⟩ := hrel
          cases gk with
          | zero => exact absurd HA.out (by simp [r33_tick.l0])
          | succ k3 =>
           have H := HA.out
           clear HA
           simp only [r33_tick.l0] at H
           by_cases Ey : B4 < (B5.length : Int)
           ·rw [if_pos Ey] at H
            have Fl : decide (B4 < (B5.length : Int)) = true := decide_eq_true Ey
            clear Ey
            by_cases Fp : 0 ≤ B4
            ·rw [if_pos Fp] at H
             have Gm : decide (0 ≤ B4) = true := decide_eq_true Fp
             clear Fp
             by_cases Fq : B4 < (B5.length : Int)
             ·rw [if_pos Fq] at H
              have Gp : decide (B4 < (B5.length : Int)) = true := decide_eq_true Fq
              clear Fq
              by_cases Ez : (((rd_T81 B5 B4).f1).size : Int) > 16
              ·rw [if_pos Ez] at H
               have Fm : decide (16 < (((rd_T81 B5 B4).f1).size : Int)) = true := decide_eq_true Ez
               have Fn : decide (16 < ((rd_T81 B5 B4).f1).size) = true := decide_eq_true (by omega)
               clear Ez
               obtain rfl := Option.some.inj H
               have Du : 0 ≤ (B4 : Int) := of_decide_eq_true (by first | (with_reducible assumption) | assumption)
               have Dv : B4 < (B5.length : Int) := of_decide_eq_true (by first | (with_reducible assumption) | assumption)
               obtain ⟨Fo, Ev, Bi, Bj⟩ := at_T81 Bn.out B4 Du Dv
               cases Ev
               replace Bi := (HB.out.cell (World.block_lt_of_cell? w _ Bi)).trans Bi
               replace Bj := (HB.out.cell (World.block_lt_of_cell? w _ Bj)).trans Bj
               replace Du := eq_true Du
               replace Dv := eq_true Dv
               go_wp2_with (first | ((with_reducible refine gate_dst (N := 6) rfl ?_); (try (refine gate_guard (by rfl) ?_; dsimp only)); refine bxe_ 6 81 #[.int .i64 0, .string (⟨#[]⟩ : ByteArray)] ?_; intro D4 hg w52 hbox hb; have Dc := below_of hb (by repeat (first | (with_reducible first | exact HB.out | apply ba_ | apply bn_ | apply bd_ | refine bs_ ?_ B2.out | refine bs_ ?_ B3.out) | exact HB.out)); have De := am_ (hbox); have E5 := am_ ((by rw [hg]; exact (below_size Dc) : w.heap.size ≤ D4)); have E6 := E5; replace HB := am_ (below_step Dc hb); have Bb := am_ ((by rw [hg]; exact Nat.ne_of_lt (blk_lt (by (with_reducible repeat (first | apply kn_ | apply kd_ | apply ka_)); exact B1.out)) : B7 ≠ D4)); have Bl := nbs_ Bb; replace B1 := am_ (blk_below (by (with_reducible repeat (first | apply kn_ | apply kd_ | apply ka_)); exact B1.out) hb); have Bc := am_ ((by rw [hg]; exact Nat.ne_of_lt (blk_lt (by (with_reducible repeat (first | apply kn_ | apply kd_ | apply ka_)); exact B0.out)) : Bf ≠ D4)); have Bm := nbs_ Bc; replace B0 := am_ (blk_below (by (with_reducible repeat (first | apply kn_ | apply kd_ | apply ka_)); exact B0.out) hb); clear Dc; clear hb hbox hg; have Gq := Bl.out; have Gr := Bb.out; have Gs := Bm.out; have Gt := Bc.out; obtain ⟨Fr, Fs⟩ := cells_2 De.out; obtain ⟨Ft, Fu⟩ := frozen_2 De.out))
               go_ret
               exact ⟨by first | rfl | (simp [*] <;> rfl), by repeat (first | (with_reducible first | exact HB.out | apply ba_ | apply bn_ | apply bd_ | refine bs_ ?_ B2.out | refine bs_ ?_ B3.out | refine bs_ ?_ E6.out) | exact HB.out)⟩
              ·rw [if_neg Ez] at H
               have Fm : decide (16 < (((rd_T81 B5 B4).f1).size : Int)) = false := decide_eq_false Ez
               have Fn : decide (16 < ((rd_T81 B5 B4).f1).size) = false := decide_eq_false (by omega)
               clear Ez
               have H' := am_ H
               clear H
               have Du : 0 ≤ (B4 : Int) := of_decide_eq_true (by first | (with_reducible assumption) | assumption)
               have Dv : B4 < (B5.length : Int) := of_decide_eq_true (by first | (with_reducible assumption) | assumption)
               obtain ⟨Fo, Ev, Bi, Bj⟩ := at_T81 Bn.out B4 Du Dv
               cases Ev
               replace Bi := (HB.out.cell (World.block_lt_of_cell? w _ Bi)).trans Bi
               replace Bj := (HB.out.cell (World.block_lt_of_cell? w _ Bj)).trans Bj
               replace Du := eq_true Du
               replace Dv := eq_true Dv
               go_wp2_with (first | ((with_reducible refine gate_dst (N := 6) rfl ?_); (try (refine gate_guard (by rfl) ?_; dsimp only)); refine bxe_ 6 81 #[.int .i64 0, .string (⟨#[]⟩ : ByteArray)] ?_; intro D4 hg w56 hbox hb; have Dc := below_of hb (by repeat (first | (with_reducible first | exact HB.out | apply ba_ | apply bn_ | apply bd_ | refine bs_ ?_ B2.out | refine bs_ ?_ B3.out) | exact HB.out)); have De := am_ (hbox); have E5 := am_ ((by rw [hg]; exact (below_size Dc) : w.heap.size ≤ D4)); have E6 := E5; replace HB := am_ (below_step Dc hb); have Bb := am_ ((by rw [hg]; exact Nat.ne_of_lt (blk_lt (by (with_reducible repeat (first | apply kn_ | apply kd_ | apply ka_)); exact B1.out)) : B7 ≠ D4)); have Bl := nbs_ Bb; replace B1 := am_ (blk_below (by (with_reducible repeat (first | apply kn_ | apply kd_ | apply ka_)); exact B1.out) hb); have Bc := am_ ((by rw [hg]; exact Nat.ne_of_lt (blk_lt (by (with_reducible repeat (first | apply kn_ | apply kd_ | apply ka_)); exact B0.out)) : Bf ≠ D4)); have Bm := nbs_ Bc; replace B0 := am_ (blk_below (by (with_reducible repeat (first | apply kn_ | apply kd_ | apply ka_)); exact B0.out) hb); clear Dc; clear hb hbox hg; have Gu := Bl.out; have Gv := Bb.out; have Gw := Bm.out; have Gx := Bc.out; obtain ⟨Fv, Fw⟩ := cells_2 De.out; obtain ⟨Fx, Fy⟩ := frozen_2 De.out))
               go_roundg k3
               case measure => have := Ew.out; have := F3.out; have := Gl.out; omega
               case rel => exact ⟨(wrap64 (B4 + 1)), (by first | rfl | (simp; done) | (simp [*]; done)), H', ⟨by have := Ew.out; have := F3.out; have := Gl.out; omega⟩, ⟨by (iterate 2 ((with_reducible repeat (first | apply kn_ | apply kd_ | apply ka_)); refine blk_far ?_ Bb.out _)); (with_reducible repeat (first | apply kn_ | apply kd_ | apply ka_)); exact B1.out⟩, ⟨by (iterate 2 ((with_reducible repeat (first | apply kn_ | apply kd_ | apply ka_)); refine blk_far ?_ Bc.out _)); (with_reducible repeat (first | apply kn_ | apply kd_ | apply ka_)); exact B0.out⟩, ⟨by repeat (first | (with_reducible first | exact HB.out | apply ba_ | apply bn_ | apply bd_ | refine bs_ ?_ B2.out | refine bs_ ?_ B3.out | refine bs_ ?_ E6.out) | exact HB.out)⟩⟩
             ·rw [if_neg Fq] at H
              exact absurd H (by simp)
            ·rw [if_neg Fp] at H
             exact absurd H (by simp)
           ·rw [if_neg Ey] at H
            have Fl : decide (B4 < (B5.length : Int)) = false := decide_eq_false Ey
            clear Ey
            obtain rfl := Option.some.inj H
            go_wp2
            go_ret
            exact ⟨by first | rfl | (simp [*] <;> rfl), by repeat (first | (with_reducible first | exact HB.out | apply ba_ | apply bn_ | apply bd_ | refine bs_ ?_ B2.out | refine bs_ ?_ B3.out) | exact HB.out)⟩
       ·replace F5 := Bool.eq_false_iff.mpr F5
        subst F5
        rw [if_neg (show ¬ (false = true) by decide)] at H
        obtain rfl := Option.some.inj H
        have Gy := B6.out
        have Gz := B8.out
        have J0 := cells_11 B1.out
        have J1 := frozen_11 B1.out
        have J2 := cells_6 B0.out
        have J3 := frozen_6 B0.out
        go_wp2_with (first | ((with_reducible refine gate_callee (f := 79) rfl ?_); refine gom_ (some 61) Try.func79 (r33_nodes.calls Dt Bk Bo Bp Bq Br Bs Bt Bu Bv Bw _ _ Bd _ _ Bg _ _ Bh _ _ B9 _ _ Be _ _ Ba _ _ B5 _ _ ?side1 Ds.out ?side3 D0.out ?side5 D2.out ?side7 D6.out ?side9 D8.out ?side11 Da.out ?side13 Db.out G5.out) ?_; (case side1 => repeat (first | exact (Kd.C_below Dr.out HB.out) | (with_reducible refine Kd.C_alloc ?_ _) | (with_reducible refine Kd.C_drewN ?_ _) | (with_reducible refine Kd.C_drew ?_))); (case side3 => repeat (first | exact (Kd.C_below Bz.out HB.out) | (with_reducible refine Kd.C_alloc ?_ _) | (with_reducible refine Kd.C_drewN ?_ _) | (with_reducible refine Kd.C_drew ?_))); (case side5 => repeat (first | exact (Kd.C_below D1.out HB.out) | (with_reducible refine Kd.C_alloc ?_ _) | (with_reducible refine Kd.C_drewN ?_ _) | (with_reducible refine Kd.C_drew ?_))); (case side7 => repeat (first | exact (Kd.C_below D5.out HB.out) | (with_reducible refine Kd.C_alloc ?_ _) | (with_reducible refine Kd.C_drewN ?_ _) | (with_reducible refine Kd.C_drew ?_))); (case side9 => repeat (first | exact (Kd.C_below D7.out HB.out) | (with_reducible refine Kd.C_alloc ?_ _) | (with_reducible refine Kd.C_drewN ?_ _) | (with_reducible refine Kd.C_drew ?_))); (case side11 => repeat (first | exact (Kd.C_below D9.out HB.out) | (with_reducible refine Kd.C_alloc ?_ _) | (with_reducible refine Kd.C_drewN ?_ _) | (with_reducible refine Kd.C_drew ?_))); (case side13 => repeat (first | exact (Kd.C_below Bn.out HB.out) | (with_reducible refine Kd.C_alloc ?_ _) | (with_reducible refine Kd.C_drewN ?_ _) | (with_reducible refine Kd.C_drew ?_))); rintro e w63 ⟨rfl, hb⟩; refine ⟨_, rfl, ?_⟩; replace B1 := am_ (blk_below (by (with_reducible repeat (first | apply kn_ | apply kd_ | apply ka_)); exact B1.out) hb); replace B0 := am_ (blk_below (by (with_reducible repeat (first | apply kn_ | apply kd_ | apply ka_)); exact B0.out) hb); replace HB := am_ (below_step (by repeat (first | (with_reducible first | exact HB.out | apply ba_ | apply bn_ | apply bd_ | refine bs_ ?_ B2.out | refine bs_ ?_ B3.out) | exact HB.out)) hb); (try clear hb)))
        go_ret
        exact ⟨by first | rfl | (simp [*] <;> rfl), by repeat (first | (with_reducible first | exact HB.out | apply ba_ | apply bn_ | apply bd_ | refine bs_ ?_ B2.out | refine bs_ ?_ B3.out) | exact HB.out)⟩
end Go.Proofs.Ythdoghhmooodjaa.Gn
