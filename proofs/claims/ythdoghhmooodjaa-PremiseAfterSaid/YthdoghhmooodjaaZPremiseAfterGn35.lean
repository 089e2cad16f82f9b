import Derived.Test.YthdoghhmooodjaaZPremiseAfterGn0
import Derived.Test.YthdoghhmooodjaaZPremiseAfterGn1
import Derived.Test.YthdoghhmooodjaaZPremiseAfterGn27
import Derived.Test.YthdoghhmooodjaaZPremiseAfterGn34
namespace Go.Proofs.Ythdoghhmooodjaa.Gn
open Go.RowKit Go.Proofs.YthdoghhmooodjaaW.PrintWords Go.Proofs.YthdoghhmooodjaaW.PrintLast Go.Proofs.YthdoghhmooodjaaW.PrintMore
attribute [local go_sem] max2_int min2_int max_two min_two max_three min_three max_four min_four   -- for this text's walks alone
set_option linter.unusedVariables false
set_option linter.unusedSimpArgs false
mutual
def r33_Right.l0 : Nat → Int → Int → Int → Int → Int → Int → Int → Int → Int → Int → Int → List Int → List Int → List ByteArray → List (S44) → Option (Int)
 | 0, _, _, _, _, _, _, _, _, _, _, _, _, _, _, _ => none
 | k + 1, x3, B2, B4, B5, B6, B7, B8, B9, Ba, Bb, Bc, Bd, B1, B3, B0 => if x3 < (B1.length : Int) then (if 0 ≤ x3 then ((r33_node.f B2 B4 B5 B6 B7 B8 B9 Ba Bb Bc Bd (rd B1 x3)).bind fun Bf => (if Bf = true then (if x3 ≤ (B1.length : Int) then ((r14_In.f k (B1.take (x3 : Int).toNat) (rd B1 x3)).bind fun Bg => (if Bg = true then (some 7) else (r33_Right.l0 k (wrap64 (x3 + 1)) B2 B4 B5 B6 B7 B8 B9 Ba Bb Bc Bd B1 B3 B0))) else (none)) else (some 7))) else (none)) else (if (B3.length : Int) > B2 then (r33_Right.j1 k true B2 B4 B5 B6 B7 B8 B9 Ba Bb Bc Bd B1 B3 B0) else (r33_Right.j1 k (decide ((B0.length : Int) > 2000)) B2 B4 B5 B6 B7 B8 B9 Ba Bb Bc Bd B1 B3 B0))
def r33_Right.j1 : Nat → Bool → Int → Int → Int → Int → Int → Int → Int → Int → Int → Int → List Int → List Int → List ByteArray → List (S44) → Option (Int)
 | 0, _, _, _, _, _, _, _, _, _, _, _, _, _, _, _ => none
 | k + 1, Bh, B2, B4, B5, B6, B7, B8, B9, Ba, Bb, Bc, Bd, B1, B3, B0 => if Bh = true then (some 6) else (r33_Right.l1 k 0 B2 B4 B5 B6 B7 B8 B9 Ba Bb Bc Bd B1 B3 B0)
def r33_Right.l1 : Nat → Int → Int → Int → Int → Int → Int → Int → Int → Int → Int → Int → List Int → List Int → List ByteArray → List (S44) → Option (Int)
 | 0, _, _, _, _, _, _, _, _, _, _, _, _, _, _, _ => none
 | k + 1, x4, B2, B4, B5, B6, B7, B8, B9, Ba, Bb, Bc, Bd, B1, B3, B0 => if x4 < (B3.length : Int) then (if 0 ≤ x4 then (if ((rdOf ByteArray.empty B3 x4).size : Int) > 8000 then (some 6) else (r33_Right.l1 k (wrap64 (x4 + 1)) B2 B4 B5 B6 B7 B8 B9 Ba Bb Bc Bd B1 B3 B0)) else (none)) else (r33_Right.l2 k 0 B2 B4 B5 B6 B7 B8 B9 Ba Bb Bc Bd B1 B3 B0)
def r33_Right.l2 : Nat → Int → Int → Int → Int → Int → Int → Int → Int → Int → Int → Int → List Int → List Int → List ByteArray → List (S44) → Option (Int)
 | 0, _, _, _, _, _, _, _, _, _, _, _, _, _, _, _ => none
 | k + 1, x5, B2, B4, B5, B6, B7, B8, B9, Ba, Bb, Bc, Bd, B1, B3, B0 => if x5 < (B0.length : Int) then (if 0 ≤ x5 then ((r33_tick.f k B2 B4 B5 B6 B7 B8 B9 Ba Bb Bc Bd ((rd_T44 B0 x5).f0) ((rd_T44 B0 x5).f1) ((rd_T44 B0 x5).f2) ((rd_T44 B0 x5).f3) ((rd_T44 B0 x5).f4) ((rd_T44 B0 x5).f5)).bind fun Be => (if Be = 0 then (r33_Right.l2 k (wrap64 (x5 + 1)) B2 B4 B5 B6 B7 B8 B9 Ba Bb Bc Bd B1 B3 B0) else (some Be))) else (none)) else (some 0)
end
def r33_Right.f (k : Nat) (B1 B2 B3 B4 B5 B6 B7 B8 B9 Ba : Int) (B0 Bb : List Int) (Bc : List ByteArray) (Bd : List (S44)) : Option (Int) := (r04_Right.f k B1 B2 B3 B4 B5 B6 B7 B8 B9 Ba B0).bind fun Be => (if Be = 0 then (r33_Right.l0 k 0 B1 B2 B3 B4 B5 B6 B7 B8 B9 Ba B0 Bb Bc Bd) else ((r04_Right.f k B1 B2 B3 B4 B5 B6 B7 B8 B9 Ba B0).bind fun Bf => (some Bf)))
def r33_Right.T6 : Bool × List (List Nat × List Nat) := (true, [([], []), ([0], [0]), ([], []), ([2], [2]), ([], []), ([3, 4], [3, 4]), ([5], [5]), ([1, 6], [1, 6]), ([7], [7]), ([8, 7], [8]), ([9], [9]), ([10, 9], [9, 10]), ([9], [9]), ([11, 12, 9], [9, 11, 12]), ([9], [9]), ([14, 9], [9, 14]), ([9], [9]), ([15, 16, 9], [9, 15, 16]), ([17, 9], [9, 17]), ([13, 18, 9, 9], [9, 13, 18]), ([9, 19], [9, 19])])
def r33_Right.B6 : List Nat := [0, 1, 0, 4, 0, 28, 60, 127, 255, 511, 1023, 2047, 1023, 8191, 1023, 17407, 1023, 115711, 246783, 524287, 1048575]
theorem r33_Right.tab6 : rtab .any (opsOf Try.f13 6) = r33_Right.T6 := by kernel_rfl
theorem r33_Right.bits6 : waitsOk r33_Right.T6.2 r33_Right.B6 = true := by kernel_rfl
def r33_Right.T18 : Bool × List (List Nat × List Nat) := (true, [([], []), ([0], [0]), ([], []), ([2], [2]), ([], []), ([3, 4], [3, 4]), ([5], [5]), ([1, 6], [1, 6]), ([7, 7, 0, 1, 2, 3, 4, 5, 6, 7], [7])])
def r33_Right.B18 : List Nat := [0, 1, 0, 4, 0, 28, 60, 127, 255]
theorem r33_Right.tab18 : rtab .any (opsOf Try.f13 18) = r33_Right.T18 := by kernel_rfl
theorem r33_Right.bits18 : waitsOk r33_Right.T18.2 r33_Right.B18 = true := by kernel_rfl
set_option maxHeartbeats 8000000 in
set_option maxRecDepth 100000 in
theorem r33_Right.calls (k : Nat) (Bj Bl Bm Bn Bo Bp Bq Br Bs Bt : Int) (D3 : Option Addr) (D4 : Nat) (B8 : List Int) (Dc : Option Addr) (Bk : Nat) (B2 : List Int) (D5 : Option Addr) (D6 : Nat) (B6 : List ByteArray) (D9 : Option Addr) (D7 : Nat) (B3 : List (S44)) (r : Int) (w : World) (Eo : Kd.C (Kd.int .i64) w D3 B8.length B8) (Ep : B8.length ≤ D4) (Eq : Kd.C (Kd.int .i64) w Dc B2.length B2) (Er : B2.length ≤ Bk) (Es : Kd.C Kd.string w D5 B6.length B6) (Et : B6.length ≤ D6) (Eu : Kd.C k44 w D9 B3.length B3) (Ev : B3.length ≤ D7) (h : r33_Right.f k Bj Bl Bm Bn Bo Bp Bq Br Bs Bt B8 B2 B6 B3 = some r) :
  Calls Try.prog 13 #[.agg #[.int .i64 Bj, .int .i64 Bl, .int .i64 Bm, .int .i64 Bn, .int .i64 Bo, .int .i64 Bp, .int .i64 Bq, .int .i64 Br, .int .i64 Bs, .int .i64 Bt, .slice D3 B8.length D4, .slice Dc B2.length Bk, .slice D5 B6.length D6, .slice D9 B3.length D7]] w fun e w' => e = .returned (.int .i64 r) ∧ Below w.heap.size w w' := by
 have Jh := Try.underlying24
 have Ji := Try.underlying44
 have Da := am_ Eo
 have Db := am_ Ep
 clear Eo Ep
 have Dv := am_ Eq
 have Ew := am_ Er
 clear Eq Er
 have Ex := am_ Es
 have Gp := am_ Et
 clear Es Et
 have Ey := am_ Eu
 have Gq := am_ Ev
 clear Eu Ev
 have HB := am_ (Below.refl w.heap.size w)
 have H := h
 unfold r33_Right.f at H
 clear h
 obtain ⟨Ez, A2, H⟩ := bes_ H
 try dsimp only at H
 by_cases c3 : Ez = 0
 ·rw [if_pos c3] at H
  have G1 : (Ez == 0) = true := beq_iff_eq.mpr c3
  have G2 : (Ez != 0) = false := bne_eq_false_iff_eq.mpr c3
  clear c3
  have H' := am_ H
  clear H
  go_enter Try.func13, Try.ntmps13
  go_wp2_with (first | ((with_reducible refine gate_load (t := 28) (x := .tmp 1) rfl ?_); refine lrg_ 28 (.tmp 1) B1 28 (by exact B0.out) Try.underlying28 ?_) | ((with_reducible refine gate_dst (N := 1) rfl ?_); (try (refine gate_guard (by rfl) ?_; dsimp only)); refine bxe_ 1 28 #[.int .i64 Bj, .int .i64 Bl, .int .i64 Bm, .int .i64 Bn, .int .i64 Bo, .int .i64 Bp, .int .i64 Bq, .int .i64 Br, .int .i64 Bs, .int .i64 Bt, .slice D3 B8.length D4, .slice Dc B2.length Bk, .slice D5 B6.length D6, .slice D9 B3.length D7] ?_; intro B1 hg w4 hbox hb; have B0 := am_ (hbox); have F0 := gwk_ HB hg; have Bu := F0; replace HB := bst_ HB hb; clear hb hbox hg; have Gr := cells_14 B0.out; have Gs := frozen_14 B0.out) | ((with_reducible refine gate_callee (f := 42) rfl ?_); refine gom_ (some 9) Try.func42 (r04_Right.calls k Bj Bl Bm Bn Bo Bp Bq Br Bs Bt _ _ B8 _ _ (Kd.C_below Da.out HB.out) Db.out A2.out) ?_; rintro e w6 ⟨rfl, hb⟩; refine ⟨_, rfl, ?_⟩; replace B0 := bkb_ B0 hb; replace HB := bst_ HB hb; (try clear hb)))
  go_loopg [3] k (fun kq v3 w' => ∃ (B5 : Int), v3 = .int .i64 B5 ∧ Aside0 (r33_Right.l0 kq B5 Bj Bl Bm Bn Bo Bp Bq Br Bs Bt B8 B2 B6 B3 = some r) ∧ Aside0 (kq ≤ k) ∧ Aside0 (w'.heap[B1]? = some (.cells #[.int .i64 Bj, .int .i64 Bl, .int .i64 Bm, .int .i64 Bn, .int .i64 Bo, .int .i64 Bp, .int .i64 Bq, .int .i64 Br, .int .i64 Bs, .int .i64 Bt, (.slice D3 B8.length D4), (.slice Dc B2.length Bk), (.slice D5 B6.length D6), (.slice D9 B3.length D7)] 28 (0, 0))) ∧ Aside0 (Below w.heap.size w w'))
  case atStart => exact ⟨(0), (by first | rfl | (simp; done) | (simp [*]; done)), H', ⟨Nat.le_refl _⟩, ⟨by (with_reducible repeat (first | apply kn_ | apply kd_ | apply ka_)); exact B0.out⟩, ⟨by repeat (first | (with_reducible first | exact HB.out | apply ba_ | apply bn_ | apply bd_ | refine bs_ ?_ Bu.out) | exact HB.out)⟩⟩
  case round =>
   clear H'
   try clear c1
   try clear p2
   try clear c3
   try clear G1
   try clear G2
   try clear c4
   try clear hcz5_0 hcz5_1 hcz5_2 hcz5_3 hcz5_4 hcz5_5 hcz5_6 hcz5_7 hcz5_8 hcz5_9 hcz5_10 hcz5_11 hcz5_12 hcz5_13
   try clear hfz5_0 hfz5_1 hfz5_2 hfz5_3 hfz5_4 hfz5_5 hfz5_6 hfz5_7 hfz5_8 hfz5_9 hfz5_10 hfz5_11 hfz5_12 hfz5_13
   obtain ⟨B5, rfl, HA, Fg, B0, HB⟩ := hrel
   cases gk with
   | zero => exact absurd HA.out (by simp [r33_Right.l0])
   | succ k1 =>
    have H := HA.out
    clear HA
    simp only [r33_Right.l0] at H
    by_cases c7 : B5 < (B2.length : Int)
    ·rw [if_pos c7] at H
     have Fd : decide (B5 < (B2.length : Int)) = true := decide_eq_true c7
     clear c7
     by_cases c8 : 0 ≤ B5
     ·rw [if_pos c8] at H
      have Jj : decide (0 ≤ B5) = true := decide_eq_true c8
      clear c8
      obtain ⟨Gt, A9, H⟩ := bes_ H
      try dsimp only at H
      by_cases Fp : Gt = true
      subst Fp
      rw [if_pos rfl] at H
      have J2 := eq_true (of_decide_eq_true (by first | (with_reducible assumption) | assumption) : 0 ≤ B5)
      by_cases Fh : B5 ≤ (B2.length : Int)
      rw [if_pos Fh] at H
      have J3 := eq_true Fh
      have J4 : decide (B5 ≤ (B2.length : Int)) = true := decide_eq_true Fh
      clear Fh
      obtain ⟨Gu, J5, H⟩ := bes_ H
      try dsimp only at H
      by_cases Fq : Gu = true
      subst Fq
      rw [if_pos rfl] at H
      obtain rfl := Option.some.inj H
      rotate_left
      ·replace Fq := Bool.eq_false_iff.mpr Fq
       subst Fq
       rw [if_neg (show ¬ (false = true) by decide)] at H
       have H' := am_ H
       clear H
       have F1 := cells_14 B0.out
       have F2 := frozen_14 B0.out
       try go_wp2
       replace B0 := am_ (blk_drew B0.out)
       replace HB := am_ (below_drew1 HB.out)
       have Dx : 0 ≤ (B5 : Int) := of_decide_eq_true (by first | (with_reducible assumption) | assumption)
       have Dy : B5 < (B2.length : Int) := of_decide_eq_true (by first | (with_reducible assumption) | assumption)
       obtain ⟨D1, Fr, B9⟩ := Kd.at_int Dv.out B5 Dx Dy
       have B7 := B9
       cases Fr
       replace B9 := (HB.out.cell (World.block_lt_of_cell? w _ B9)).trans B9
       replace Dx := eq_true Dx
       replace Dy := eq_true Dy
       have Dz : 0 ≤ (B5 : Int) := of_decide_eq_true (by first | (with_reducible assumption) | assumption)
       have E0 : B5 < (B2.length : Int) := of_decide_eq_true (by first | (with_reducible assumption) | assumption)
       obtain ⟨F3, Fs, Bb⟩ := Kd.at_int Dv.out B5 Dz E0
       have Bc := Bb
       obtain rfl : D1 = F3 := (by injection Fs)
       replace Bb := (HB.out.cell (World.block_lt_of_cell? w _ Bb)).trans Bb
       replace Dz := eq_true Dz
       replace E0 := eq_true E0
       refine start_ (n := 21) (S := fun w' => ce_ w' B1 0 (.int .i64 Bj) ∧ ce_ w' B1 1 (.int .i64 Bl) ∧ ce_ w' B1 2 (.int .i64 Bm) ∧ ce_ w' B1 3 (.int .i64 Bn) ∧ ce_ w' B1 4 (.int .i64 Bo) ∧ ce_ w' B1 5 (.int .i64 Bp) ∧ ce_ w' B1 6 (.int .i64 Bq) ∧ ce_ w' B1 7 (.int .i64 Br) ∧ ce_ w' B1 8 (.int .i64 Bs) ∧ ce_ w' B1 9 (.int .i64 Bt) ∧ ce_ w' B1 10 (.slice D3 B8.length D4) ∧ ce_ w' B1 11 (.slice (some D1) B2.length Bk) ∧ ce_ w' B1 12 (.slice D5 B6.length D6) ∧ ce_ w' B1 13 (.slice D9 B3.length D7) ∧ w'.cell? (D1.add (B5).toNat) = some (.int .i64 (rd B2 B5)) ∧ w'.cell? (D1.add (B5).toNat) = some (.int .i64 (rd B2 B5))) (ds := []) #[false, false, false, false, false, false, false, false, false, false, false, false, false, false, false, false, false, false, false, false, false] (by kernel_rfl) rfl rfl ⟨(blk_cell B0.out 0).trans rfl, (blk_cell B0.out 1).trans rfl, (blk_cell B0.out 2).trans rfl, (blk_cell B0.out 3).trans rfl, (blk_cell B0.out 4).trans rfl, (blk_cell B0.out 5).trans rfl, (blk_cell B0.out 6).trans rfl, (blk_cell B0.out 7).trans rfl, (blk_cell B0.out 8).trans rfl, (blk_cell B0.out 9).trans rfl, (blk_cell B0.out 10).trans rfl, (blk_cell B0.out 11).trans rfl, (blk_cell B0.out 12).trans rfl, (blk_cell B0.out 13).trans rfl, ((HB.out.cell (World.block_lt_of_cell? w _ B7)).trans B7), ((HB.out.cell (World.block_lt_of_cell? w _ Bc)).trans Bc)⟩ (fun hHeld => ?_); refine with_tabW r33_Right.tab6 r33_Right.bits6 (fun HT_ HW_ => ?_)
       generalize wr.drew = w20 at B0 HB B9 Bb hHeld ⊢
       refine pur_ 0 (some 21) rfl rfl (any_of HT_.out (by kernel_rfl)) ?_
       refine pur_ 2 (some 23) rfl rfl (any_of HT_.out (by kernel_rfl)) ?_
       refine pur_ 4 (some 25) rfl rfl (any_of HT_.out (by kernel_rfl)) ?_
       refine tak_ 1 (some 22) rfl rfl (take_ofW HT_.out HW_.out (by kernel_rfl)) hHeld ?_ (by rintro w' ⟨s0, s1, s2, s3, s4, s5, s6, s7, s8, s9, s10, s11, s12, s13, s14, s15⟩; (first | (refine load_cells_14 (ty := 28) (x := .tmp 1) (g := B1) ?hlo_ ?hx_ Try.underlying28 ?hd_ ?hi_ s0 s1 s2 s3 s4 s5 s6 s7 s8 s9 s10 s11 s12 s13; (case hlo_ => rfl); (case hx_ => rfl); (case hd_ => rfl); (case hi_ => kernel_rfl)) | (go_simp; with_reducible rfl)))
       refine tak_ 3 (some 24) rfl rfl (take_ofW HT_.out HW_.out (by kernel_rfl)) hHeld ?_ (by rintro w' ⟨s0, s1, s2, s3, s4, s5, s6, s7, s8, s9, s10, s11, s12, s13, s14, s15⟩; (first | (refine load_cells_14 (ty := 28) (x := .tmp 1) (g := B1) ?hlo_ ?hx_ Try.underlying28 ?hd_ ?hi_ s0 s1 s2 s3 s4 s5 s6 s7 s8 s9 s10 s11 s12 s13; (case hlo_ => rfl); (case hx_ => rfl); (case hd_ => rfl); (case hi_ => kernel_rfl)) | (go_simp; with_reducible rfl)))
       refine pur_ 5 (some 26) rfl rfl (any_of HT_.out (by kernel_rfl)) ?_
       refine tak_ 6 (some 27) rfl rfl (take_ofW HT_.out HW_.out (by kernel_rfl)) hHeld ?_ (by rintro w' ⟨s0, s1, s2, s3, s4, s5, s6, s7, s8, s9, s10, s11, s12, s13, s14, s15⟩; (first | (refine load_cells_14 (ty := 28) (x := .tmp 1) (g := B1) ?hlo_ ?hx_ Try.underlying28 ?hd_ ?hi_ s0 s1 s2 s3 s4 s5 s6 s7 s8 s9 s10 s11 s12 s13; (case hlo_ => rfl); (case hx_ => rfl); (case hd_ => rfl); (case hi_ => kernel_rfl)) | (go_simp; with_reducible rfl)))
       refine oon_ 7 (some 28) rfl rfl (one_of HT_.out (by kernel_rfl)) (fun K hK => ?_)
       refine gos_ Try.func43 (r33_node.calls Bj Bl Bm Bn Bo Bp Bq Br Bs Bt _ _ B8 (rd B2 B5) _ _ (Kd.C_below Da.out HB.out) Db.out A9.out) ?_
       rintro e w21 ⟨rfl, hb⟩
       refine ⟨_, rfl, ?_⟩
       replace B0 := bkb_ B0 hb
       replace HB := bst_ HB hb
       (try clear hb)
       (try clear hb2)
       (try clear hk)
       (try clear hi)
       obtain ⟨Jk, Fi, _, Fj, _⟩ := info_parts info3
       obtain ⟨Gv, G3, G4⟩ := print_take_of (P := Try.prog) (Value.int .i64) 0 22 3 .i64 Try.underlying22 Fi Fj (some D1) Bk B2 B5 (of_decide_eq_true (by first | (with_reducible assumption) | assumption)) (of_decide_eq_true (by first | (with_reducible assumption) | assumption)) Ew.out
       have F4 := am_ (Kd.C_of_reads (h1 := fun _ => rfl) (G3 _ (Kd.reads_of_C Dv.out)))
       have F5 := am_ G4
       clear G3 G4 Fi Fj
       refine hK.out _ _ (and_14 B0.out ⟨((HB.out.cell (World.block_lt_of_cell? w _ B7)).trans B7), ((HB.out.cell (World.block_lt_of_cell? w _ Bc)).trans Bc)⟩) (fun hHeld => ?_)
       clear hK K
       refine nor_ 28 ?_
       refine pur_ 8 (some 29) rfl rfl (any_of HT_.out (by kernel_rfl)) ?_
       refine pur_ 9 (some 30) rfl rfl (any_of HT_.out (by kernel_rfl)) ?_
       refine pur_ 10 (some 31) rfl rfl (any_of HT_.out (by kernel_rfl)) ?_
       refine pur_ 12 (some 33) rfl rfl (any_of HT_.out (by kernel_rfl)) ?_
       refine pur_ 14 (some 35) rfl rfl (any_of HT_.out (by kernel_rfl)) ?_
       refine pur_ 16 (some 37) rfl rfl (any_of HT_.out (by kernel_rfl)) ?_
       refine tak_ 11 (some 32) rfl rfl (take_ofW HT_.out HW_.out (by kernel_rfl)) hHeld ?_ (by rintro w' ⟨s0, s1, s2, s3, s4, s5, s6, s7, s8, s9, s10, s11, s12, s13, s14, s15⟩; (first | (refine load_cells_14 (ty := 28) (x := .tmp 1) (g := B1) ?hlo_ ?hx_ Try.underlying28 ?hd_ ?hi_ s0 s1 s2 s3 s4 s5 s6 s7 s8 s9 s10 s11 s12 s13; (case hlo_ => rfl); (case hx_ => rfl); (case hd_ => rfl); (case hi_ => kernel_rfl)) | (go_simp; with_reducible rfl)))
       refine pur_ 13 (some 34) rfl rfl (any_of HT_.out (by kernel_rfl)) ?_
       refine tak_ 15 (some 36) rfl rfl (take_ofW HT_.out HW_.out (by kernel_rfl)) hHeld ?_ (by rintro w' ⟨s0, s1, s2, s3, s4, s5, s6, s7, s8, s9, s10, s11, s12, s13, s14, s15⟩; (first | (refine load_cells_14 (ty := 28) (x := .tmp 1) (g := B1) ?hlo_ ?hx_ Try.underlying28 ?hd_ ?hi_ s0 s1 s2 s3 s4 s5 s6 s7 s8 s9 s10 s11 s12 s13; (case hlo_ => rfl); (case hx_ => rfl); (case hd_ => rfl); (case hi_ => kernel_rfl)) | (go_simp; with_reducible rfl)))
       refine pur_ 17 (some 38) rfl rfl (any_of HT_.out (by kernel_rfl)) ?_
       refine tak_ 18 (some 39) rfl rfl (take_ofW HT_.out HW_.out (by kernel_rfl)) hHeld ?_ (by rintro w' ⟨s0, s1, s2, s3, s4, s5, s6, s7, s8, s9, s10, s11, s12, s13, s14, s15⟩; (first | (refine load_cells_14 (ty := 28) (x := .tmp 1) (g := B1) ?hlo_ ?hx_ Try.underlying28 ?hd_ ?hi_ s0 s1 s2 s3 s4 s5 s6 s7 s8 s9 s10 s11 s12 s13; (case hlo_ => rfl); (case hx_ => rfl); (case hd_ => rfl); (case hi_ => kernel_rfl)) | (go_simp; with_reducible rfl)))
       refine oon_ 19 (some 40) rfl rfl (one_of HT_.out (by kernel_rfl)) (fun K hK => ?_)
       refine goes_ Try.func44 (by kernel_rfl) rfl #[.slice (some D1) (B2.take (B5 : Int).toNat).length Bk, .int .i64 (rd B2 B5)] (by rfl) rfl rfl (by (try simp only [List.map_toArray, List.map_cons, List.map_nil]); first | done | (rw [show (B2.take (B5 : Int).toNat).length = B5.toNat from (by rw [List.length_take]; have h_ : (B5 : Int) ≤ (B2.length : Int) := of_decide_eq_true (by first | (with_reducible assumption) | assumption); omega)] <;> rfl) | rfl | (simp only [List.length_drop, List.length_take]; rfl)) ?_
       with_reducible refine (r14_In.calls k1 _ _ (B2.take (B5 : Int).toNat) (rd B2 B5) _ _ ?side1 ?side2 J5.out).mono ?_
       (case side1 => exact (Kd.C_below F4.out HB.out))
       (case side2 => exact F5.out)
       rintro e w' ⟨rfl, ⟨nd, rfl⟩⟩
       refine ⟨_, rfl, ?_⟩
       refine hK.out _ _ (and_14 B0.out ⟨((HB.out.cell (World.block_lt_of_cell? w _ B7)).trans B7), ((HB.out.cell (World.block_lt_of_cell? w _ Bc)).trans Bc)⟩) (fun hHeld => ?_)
       clear hK K
       refine nor_ 40 ?_
       refine pur_ 20 (some 41) rfl rfl (any_of HT_.out (by kernel_rfl)) ?_
       refine done_ (done_of HT_.out (by kernel_rfl)) ?_
       try go_wp2
       go_roundg k1
       case measure => have := Fg.out; omega
       case rel => exact ⟨(wrap64 (B5 + 1)), (by first | rfl | (simp; done) | (simp [*]; done)), H', ⟨by have := Fg.out; omega⟩, ⟨by (with_reducible repeat (first | apply kn_ | apply kd_ | apply ka_)); exact B0.out⟩, ⟨by repeat (first | (with_reducible first | exact HB.out | apply ba_ | apply bn_ | apply bd_ | refine bs_ ?_ Bu.out) | exact HB.out)⟩⟩
      ·rw [if_neg Fh] at H
       exact absurd H (by simp)
      replace Fp := Bool.eq_false_iff.mpr Fp
      subst Fp
      rw [if_neg (show ¬ (false = true) by decide)] at H
      obtain rfl := Option.some.inj H
      rotate_left
      all_goals
       have J6 := cells_14 B0.out
       have J7 := frozen_14 B0.out
       try go_wp2
       replace B0 := am_ (blk_drew B0.out)
       replace HB := am_ (below_drew1 HB.out)
       have Dx : 0 ≤ (B5 : Int) := of_decide_eq_true (by first | (with_reducible assumption) | assumption)
       have Dy : B5 < (B2.length : Int) := of_decide_eq_true (by first | (with_reducible assumption) | assumption)
       obtain ⟨D1, Fr, B9⟩ := Kd.at_int Dv.out B5 Dx Dy
       have B7 := B9
       cases Fr
       replace B9 := (HB.out.cell (World.block_lt_of_cell? w _ B9)).trans B9
       replace Dx := eq_true Dx
       replace Dy := eq_true Dy
      ·have Dz : 0 ≤ (B5 : Int) := of_decide_eq_true (by first | (with_reducible assumption) | assumption)
       have E0 : B5 < (B2.length : Int) := of_decide_eq_true (by first | (with_reducible assumption) | assumption)
       obtain ⟨F3, Fs, Bb⟩ := Kd.at_int Dv.out B5 Dz E0
       have Bc := Bb
       obtain rfl : D1 = F3 := (by injection Fs)
       replace Bb := (HB.out.cell (World.block_lt_of_cell? w _ Bb)).trans Bb
       replace Dz := eq_true Dz
       replace E0 := eq_true E0
       refine start_ (n := 21) (S := fun w' => ce_ w' B1 0 (.int .i64 Bj) ∧ ce_ w' B1 1 (.int .i64 Bl) ∧ ce_ w' B1 2 (.int .i64 Bm) ∧ ce_ w' B1 3 (.int .i64 Bn) ∧ ce_ w' B1 4 (.int .i64 Bo) ∧ ce_ w' B1 5 (.int .i64 Bp) ∧ ce_ w' B1 6 (.int .i64 Bq) ∧ ce_ w' B1 7 (.int .i64 Br) ∧ ce_ w' B1 8 (.int .i64 Bs) ∧ ce_ w' B1 9 (.int .i64 Bt) ∧ ce_ w' B1 10 (.slice D3 B8.length D4) ∧ ce_ w' B1 11 (.slice (some D1) B2.length Bk) ∧ ce_ w' B1 12 (.slice D5 B6.length D6) ∧ ce_ w' B1 13 (.slice D9 B3.length D7) ∧ w'.cell? (D1.add (B5).toNat) = some (.int .i64 (rd B2 B5)) ∧ w'.cell? (D1.add (B5).toNat) = some (.int .i64 (rd B2 B5))) (ds := []) #[false, false, false, false, false, false, false, false, false, false, false, false, false, false, false, false, false, false, false, false, false] (by kernel_rfl) rfl rfl ⟨(blk_cell B0.out 0).trans rfl, (blk_cell B0.out 1).trans rfl, (blk_cell B0.out 2).trans rfl, (blk_cell B0.out 3).trans rfl, (blk_cell B0.out 4).trans rfl, (blk_cell B0.out 5).trans rfl, (blk_cell B0.out 6).trans rfl, (blk_cell B0.out 7).trans rfl, (blk_cell B0.out 8).trans rfl, (blk_cell B0.out 9).trans rfl, (blk_cell B0.out 10).trans rfl, (blk_cell B0.out 11).trans rfl, (blk_cell B0.out 12).trans rfl, (blk_cell B0.out 13).trans rfl, ((HB.out.cell (World.block_lt_of_cell? w _ B7)).trans B7), ((HB.out.cell (World.block_lt_of_cell? w _ Bc)).trans Bc)⟩ (fun hHeld => ?_); refine with_tabW r33_Right.tab6 r33_Right.bits6 (fun HT_ HW_ => ?_)
       generalize wr.drew = w16 at B0 HB B9 Bb hHeld ⊢
       refine pur_ 0 (some 21) rfl rfl (any_of HT_.out (by kernel_rfl)) ?_
       refine pur_ 2 (some 23) rfl rfl (any_of HT_.out (by kernel_rfl)) ?_
       refine pur_ 4 (some 25) rfl rfl (any_of HT_.out (by kernel_rfl)) ?_
       refine tak_ 1 (some 22) rfl rfl (take_ofW HT_.out HW_.out (by kernel_rfl)) hHeld ?_ (by rintro w' ⟨s0, s1, s2, s3, s4, s5, s6, s7, s8, s9, s10, s11, s12, s13, s14, s15⟩; (first | (refine load_cells_14 (ty := 28) (x := .tmp 1) (g := B1) ?hlo_ ?hx_ Try.underlying28 ?hd_ ?hi_ s0 s1 s2 s3 s4 s5 s6 s7 s8 s9 s10 s11 s12 s13; (case hlo_ => rfl); (case hx_ => rfl); (case hd_ => rfl); (case hi_ => kernel_rfl)) | (go_simp; with_reducible rfl)))
       refine tak_ 3 (some 24) rfl rfl (take_ofW HT_.out HW_.out (by kernel_rfl)) hHeld ?_ (by rintro w' ⟨s0, s1, s2, s3, s4, s5, s6, s7, s8, s9, s10, s11, s12, s13, s14, s15⟩; (first | (refine load_cells_14 (ty := 28) (x := .tmp 1) (g := B1) ?hlo_ ?hx_ Try.underlying28 ?hd_ ?hi_ s0 s1 s2 s3 s4 s5 s6 s7 s8 s9 s10 s11 s12 s13; (case hlo_ => rfl); (case hx_ => rfl); (case hd_ => rfl); (case hi_ => kernel_rfl)) | (go_simp; with_reducible rfl)))
       refine pur_ 5 (some 26) rfl rfl (any_of HT_.out (by kernel_rfl)) ?_
       refine tak_ 6 (some 27) rfl rfl (take_ofW HT_.out HW_.out (by kernel_rfl)) hHeld ?_ (by rintro w' ⟨s0, s1, s2, s3, s4, s5, s6, s7, s8, s9, s10, s11, s12, s13, s14, s15⟩; (first | (refine load_cells_14 (ty := 28) (x := .tmp 1) (g := B1) ?hlo_ ?hx_ Try.underlying28 ?hd_ ?hi_ s0 s1 s2 s3 s4 s5 s6 s7 s8 s9 s10 s11 s12 s13; (case hlo_ => rfl); (case hx_ => rfl); (case hd_ => rfl); (case hi_ => kernel_rfl)) | (go_simp; with_reducible rfl)))
       refine oon_ 7 (some 28) rfl rfl (one_of HT_.out (by kernel_rfl)) (fun K hK => ?_)
       refine gos_ Try.func43 (r33_node.calls Bj Bl Bm Bn Bo Bp Bq Br Bs Bt _ _ B8 (rd B2 B5) _ _ (Kd.C_below Da.out HB.out) Db.out A9.out) ?_
       rintro e w17 ⟨rfl, hb⟩
       refine ⟨_, rfl, ?_⟩
       replace B0 := bkb_ B0 hb
       replace HB := bst_ HB hb
       (try clear hb)
       (try clear hb2)
       (try clear hk)
       (try clear hi)
       obtain ⟨Jl, Fk, _, Fl, _⟩ := info_parts info3
       obtain ⟨Gw, G5, G6⟩ := print_take_of (P := Try.prog) (Value.int .i64) 0 22 3 .i64 Try.underlying22 Fk Fl (some D1) Bk B2 B5 (of_decide_eq_true (by first | (with_reducible assumption) | assumption)) (of_decide_eq_true (by first | (with_reducible assumption) | assumption)) Ew.out
       have F4 := am_ (Kd.C_of_reads (h1 := fun _ => rfl) (G5 _ (Kd.reads_of_C Dv.out)))
       have F5 := am_ G6
       clear G5 G6 Fk Fl
       refine hK.out _ _ (and_14 B0.out ⟨((HB.out.cell (World.block_lt_of_cell? w _ B7)).trans B7), ((HB.out.cell (World.block_lt_of_cell? w _ Bc)).trans Bc)⟩) (fun hHeld => ?_)
       clear hK K
       refine nor_ 28 ?_
       refine pur_ 8 (some 29) rfl rfl (any_of HT_.out (by kernel_rfl)) ?_
       refine pur_ 9 (some 30) rfl rfl (any_of HT_.out (by kernel_rfl)) ?_
       refine pur_ 10 (some 31) rfl rfl (any_of HT_.out (by kernel_rfl)) ?_
       refine pur_ 12 (some 33) rfl rfl (any_of HT_.out (by kernel_rfl)) ?_
       refine pur_ 14 (some 35) rfl rfl (any_of HT_.out (by kernel_rfl)) ?_
       refine pur_ 16 (some 37) rfl rfl (any_of HT_.out (by kernel_rfl)) ?_
       refine tak_ 11 (some 32) rfl rfl (take_ofW HT_.out HW_.out (by kernel_rfl)) hHeld ?_ (by rintro w' ⟨s0, s1, s2, s3, s4, s5, s6, s7, s8, s9, s10, s11, s12, s13, s14, s15⟩; (first | (refine load_cells_14 (ty := 28) (x := .tmp 1) (g := B1) ?hlo_ ?hx_ Try.underlying28 ?hd_ ?hi_ s0 s1 s2 s3 s4 s5 s6 s7 s8 s9 s10 s11 s12 s13; (case hlo_ => rfl); (case hx_ => rfl); (case hd_ => rfl); (case hi_ => kernel_rfl)) | (go_simp; with_reducible rfl)))
       refine pur_ 13 (some 34) rfl rfl (any_of HT_.out (by kernel_rfl)) ?_
       refine tak_ 15 (some 36) rfl rfl (take_ofW HT_.out HW_.out (by kernel_rfl)) hHeld ?_ (by rintro w' ⟨s0, s1, s2, s3, s4, s5, s6, s7, s8, s9, s10, s11, s12, s13, s14, s15⟩; (first | (refine load_cells_14 (ty := 28) (x := .tmp 1) (g := B1) ?hlo_ ?hx_ Try.underlying28 ?hd_ ?hi_ s0 s1 s2 s3 s4 s5 s6 s7 s8 s9 s10 s11 s12 s13; (case hlo_ => rfl); (case hx_ => rfl); (case hd_ => rfl); (case hi_ => kernel_rfl)) | (go_simp; with_reducible rfl)))
       refine pur_ 17 (some 38) rfl rfl (any_of HT_.out (by kernel_rfl)) ?_
       refine tak_ 18 (some 39) rfl rfl (take_ofW HT_.out HW_.out (by kernel_rfl)) hHeld ?_ (by rintro w' ⟨s0, s1, s2, s3, s4, s5, s6, s7, s8, s9, s10, s11, s12, s13, s14, s15⟩; (first | (refine load_cells_14 (ty := 28) (x := .tmp 1) (g := B1) ?hlo_ ?hx_ Try.underlying28 ?hd_ ?hi_ s0 s1 s2 s3 s4 s5 s6 s7 s8 s9 s10 s11 s12 s13; (case hlo_ => rfl); (case hx_ => rfl); (case hd_ => rfl); (case hi_ => kernel_rfl)) | (go_simp; with_reducible rfl)))
       refine oon_ 19 (some 40) rfl rfl (one_of HT_.out (by kernel_rfl)) (fun K hK => ?_)
       refine goes_ Try.func44 (by kernel_rfl) rfl #[.slice (some D1) (B2.take (B5 : Int).toNat).length Bk, .int .i64 (rd B2 B5)] (by rfl) rfl rfl (by (try simp only [List.map_toArray, List.map_cons, List.map_nil]); first | done | (rw [show (B2.take (B5 : Int).toNat).length = B5.toNat from (by rw [List.length_take]; have h_ : (B5 : Int) ≤ (B2.length : Int) := of_decide_eq_true (by first | (with_reducible assumption) | assumption); omega)] <;> rfl) | rfl | (simp only [List.length_drop, List.length_take]; rfl)) ?_
       with_reducible refine (r14_In.calls k1 _ _ (B2.take (B5 : Int).toNat) (rd B2 B5) _ _ ?side1 ?side2 J5.out).mono ?_
       (case side1 => exact (Kd.C_below F4.out HB.out))
       (case side2 => exact F5.out)
       rintro e w' ⟨rfl, ⟨nd, rfl⟩⟩
       refine ⟨_, rfl, ?_⟩
       refine hK.out _ _ (and_14 B0.out ⟨((HB.out.cell (World.block_lt_of_cell? w _ B7)).trans B7), ((HB.out.cell (World.block_lt_of_cell? w _ Bc)).trans Bc)⟩) (fun hHeld => ?_)
       clear hK K
       refine nor_ 40 ?_
       refine pur_ 20 (some 41) rfl rfl (any_of HT_.out (by kernel_rfl)) ?_
       refine done_ (done_of HT_.out (by kernel_rfl)) ?_
       try go_wp2
       go_ret
       exact ⟨by first | rfl | (simp [*] <;> rfl), by repeat (first | (with_reducible first | exact HB.out | apply ba_ | apply bn_ | apply bd_ | refine bs_ ?_ Bu.out) | exact HB.out)⟩
      ·refine start_ (n := 21) (S := fun w' => ce_ w' B1 0 (.int .i64 Bj) ∧ ce_ w' B1 1 (.int .i64 Bl) ∧ ce_ w' B1 2 (.int .i64 Bm) ∧ ce_ w' B1 3 (.int .i64 Bn) ∧ ce_ w' B1 4 (.int .i64 Bo) ∧ ce_ w' B1 5 (.int .i64 Bp) ∧ ce_ w' B1 6 (.int .i64 Bq) ∧ ce_ w' B1 7 (.int .i64 Br) ∧ ce_ w' B1 8 (.int .i64 Bs) ∧ ce_ w' B1 9 (.int .i64 Bt) ∧ ce_ w' B1 10 (.slice D3 B8.length D4) ∧ ce_ w' B1 11 (.slice (some D1) B2.length Bk) ∧ ce_ w' B1 12 (.slice D5 B6.length D6) ∧ ce_ w' B1 13 (.slice D9 B3.length D7) ∧ w'.cell? (D1.add (B5).toNat) = some (.int .i64 (rd B2 B5))) (ds := []) #[false, false, false, false, false, false, false, false, false, false, false, false, false, false, false, false, false, false, false, false, false] (by kernel_rfl) rfl rfl ⟨(blk_cell B0.out 0).trans rfl, (blk_cell B0.out 1).trans rfl, (blk_cell B0.out 2).trans rfl, (blk_cell B0.out 3).trans rfl, (blk_cell B0.out 4).trans rfl, (blk_cell B0.out 5).trans rfl, (blk_cell B0.out 6).trans rfl, (blk_cell B0.out 7).trans rfl, (blk_cell B0.out 8).trans rfl, (blk_cell B0.out 9).trans rfl, (blk_cell B0.out 10).trans rfl, (blk_cell B0.out 11).trans rfl, (blk_cell B0.out 12).trans rfl, (blk_cell B0.out 13).trans rfl, ((HB.out.cell (World.block_lt_of_cell? w _ B7)).trans B7)⟩ (fun hHeld => ?_); refine with_tabW r33_Right.tab6 r33_Right.bits6 (fun HT_ HW_ => ?_)
       generalize wr.drew = w24 at B0 HB B9 hHeld ⊢
       refine pur_ 0 (some 21) rfl rfl (any_of HT_.out (by kernel_rfl)) ?_
       refine pur_ 2 (some 23) rfl rfl (any_of HT_.out (by kernel_rfl)) ?_
       refine pur_ 4 (some 25) rfl rfl (any_of HT_.out (by kernel_rfl)) ?_
       refine tak_ 1 (some 22) rfl rfl (take_ofW HT_.out HW_.out (by kernel_rfl)) hHeld ?_ (by rintro w' ⟨s0, s1, s2, s3, s4, s5, s6, s7, s8, s9, s10, s11, s12, s13, s14⟩; (first | (refine load_cells_14 (ty := 28) (x := .tmp 1) (g := B1) ?hlo_ ?hx_ Try.underlying28 ?hd_ ?hi_ s0 s1 s2 s3 s4 s5 s6 s7 s8 s9 s10 s11 s12 s13; (case hlo_ => rfl); (case hx_ => rfl); (case hd_ => rfl); (case hi_ => kernel_rfl)) | (go_simp; with_reducible rfl)))
       refine tak_ 3 (some 24) rfl rfl (take_ofW HT_.out HW_.out (by kernel_rfl)) hHeld ?_ (by rintro w' ⟨s0, s1, s2, s3, s4, s5, s6, s7, s8, s9, s10, s11, s12, s13, s14⟩; (first | (refine load_cells_14 (ty := 28) (x := .tmp 1) (g := B1) ?hlo_ ?hx_ Try.underlying28 ?hd_ ?hi_ s0 s1 s2 s3 s4 s5 s6 s7 s8 s9 s10 s11 s12 s13; (case hlo_ => rfl); (case hx_ => rfl); (case hd_ => rfl); (case hi_ => kernel_rfl)) | (go_simp; with_reducible rfl)))
       refine pur_ 5 (some 26) rfl rfl (any_of HT_.out (by kernel_rfl)) ?_
       refine tak_ 6 (some 27) rfl rfl (take_ofW HT_.out HW_.out (by kernel_rfl)) hHeld ?_ (by rintro w' ⟨s0, s1, s2, s3, s4, s5, s6, s7, s8, s9, s10, s11, s12, s13, s14⟩; (first | (refine load_cells_14 (ty := 28) (x := .tmp 1) (g := B1) ?hlo_ ?hx_ Try.underlying28 ?hd_ ?hi_ s0 s1 s2 s3 s4 s5 s6 s7 s8 s9 s10 s11 s12 s13; (case hlo_ => rfl); (case hx_ => rfl); (case hd_ => rfl); (case hi_ => kernel_rfl)) | (go_simp; with_reducible rfl)))
       refine oon_ 7 (some 28) rfl rfl (one_of HT_.out (by kernel_rfl)) (fun K hK => ?_)
       refine gos_ Try.func43 (r33_node.calls Bj Bl Bm Bn Bo Bp Bq Br Bs Bt _ _ B8 (rd B2 B5) _ _ (Kd.C_below Da.out HB.out) Db.out A9.out) ?_
       rintro e w25 ⟨rfl, hb⟩
       refine ⟨_, rfl, ?_⟩
       replace B0 := bkb_ B0 hb
       replace HB := bst_ HB hb
       (try clear hb)
       (try clear hb2)
       (try clear hk)
       (try clear hi)
       refine hK.out _ _ (and_14 B0.out ((HB.out.cell (World.block_lt_of_cell? w _ B7)).trans B7)) (fun hHeld => ?_)
       clear hK K
       refine nor_ 28 ?_
       refine pur_ 8 (some 29) rfl rfl (any_of HT_.out (by kernel_rfl)) ?_
       refine pur_ 9 (some 30) rfl rfl (any_of HT_.out (by kernel_rfl)) ?_
       refine puu_ 10 (some 31) rfl rfl (any_of HT_.out (by kernel_rfl)) ?_
       refine puu_ 11 (some 32) rfl rfl (any_of HT_.out (by kernel_rfl)) ?_
       refine puu_ 12 (some 33) rfl rfl (any_of HT_.out (by kernel_rfl)) ?_
       refine puu_ 13 (some 34) rfl rfl (any_of HT_.out (by kernel_rfl)) ?_
       refine puu_ 14 (some 35) rfl rfl (any_of HT_.out (by kernel_rfl)) ?_
       refine puu_ 15 (some 36) rfl rfl (any_of HT_.out (by kernel_rfl)) ?_
       refine puu_ 16 (some 37) rfl rfl (any_of HT_.out (by kernel_rfl)) ?_
       refine puu_ 17 (some 38) rfl rfl (any_of HT_.out (by kernel_rfl)) ?_
       refine puu_ 18 (some 39) rfl rfl (any_of HT_.out (by kernel_rfl)) ?_
       refine puu_ 19 (some 40) rfl rfl (any_of HT_.out (by kernel_rfl)) ?_
       refine pur_ 20 (some 41) rfl rfl (any_of HT_.out (by kernel_rfl)) ?_
       refine done_ (done_of HT_.out (by kernel_rfl)) ?_
       try go_wp2
       go_ret
       exact ⟨by first | rfl | (simp [*] <;> rfl), by repeat (first | (with_reducible first | exact HB.out | apply ba_ | apply bn_ | apply bd_ | refine bs_ ?_ Bu.out) | exact HB.out)⟩
     ·rw [if_neg c8] at H
      exact absurd H (by simp)
    ·rw [if_neg c7] at H
     have Fd : decide (B5 < (B2.length : Int)) = false := decide_eq_false c7
     clear c7
     have Ft := am_ H
     clear H
     have F6 := cells_14 B0.out
     have F7 := frozen_14 B0.out
     go_upto_region 8 with (fail)
     go_cut [54] (fun v54 wc => ∃ (kq : Nat) (E1 : Bool), v54 = .bool E1 ∧ Aside0 (r33_Right.j1 kq E1 Bj Bl Bm Bn Bo Bp Bq Br Bs Bt B8 B2 B6 B3 = some r) ∧ Aside0 (kq ≤ k1) ∧ Aside0 (wc.heap[B1]? = some (.cells #[.int .i64 Bj, .int .i64 Bl, .int .i64 Bm, .int .i64 Bn, .int .i64 Bo, .int .i64 Bp, .int .i64 Bq, .int .i64 Br, .int .i64 Bs, .int .i64 Bt, (.slice D3 B8.length D4), (.slice Dc B2.length Bk), (.slice D5 B6.length D6), (.slice D9 B3.length D7)] 28 (0, 0))) ∧ Aside0 (Below w.heap.size w wc))
     case first =>
      have H := Ft.out
      clear Ft
      by_cases Fe : (B6.length : Int) > Bj
      ·rw [if_pos Fe] at H
       have Dw : decide (Bj < (B6.length : Int)) = true := decide_eq_true Fe
       clear Fe
       (first | rw [Dw] | (simp only [i64_w, i32_w]; rw [Dw]) | skip)
       have H' := am_ H
       clear H
       have F8 := cells_14 B0.out
       have F9 := frozen_14 B0.out
       go_wp2
       go_meet
       case rel => exact ⟨_, (true), (by first | rfl | (simp; done) | (simp [*]; done)), H', ⟨by have := Fg.out; first | omega | exact Nat.le_refl _⟩, ⟨by (with_reducible repeat (first | apply kn_ | apply kd_ | apply ka_)); exact B0.out⟩, ⟨by repeat (first | (with_reducible first | exact HB.out | apply ba_ | apply bn_ | apply bd_ | refine bs_ ?_ Bu.out) | exact HB.out)⟩⟩
      ·rw [if_neg Fe] at H
       have Dw : decide (Bj < (B6.length : Int)) = false := decide_eq_false Fe
       clear Fe
       (first | rw [Dw] | (simp only [i64_w, i32_w]; rw [Dw]) | skip)
       have H' := am_ H
       clear H
       have Fa := cells_14 B0.out
       have Fb := frozen_14 B0.out
       go_wp2
       go_meet
       case rel => exact ⟨_, (decide ((B3.length : Int) > 2000)), (by first | rfl | (simp; done) | (simp [*]; done)), H', ⟨by have := Fg.out; first | omega | exact Nat.le_refl _⟩, ⟨by (with_reducible repeat (first | apply kn_ | apply kd_ | apply ka_)); exact B0.out⟩, ⟨by repeat (first | (with_reducible first | exact HB.out | apply ba_ | apply bn_ | apply bd_ | refine bs_ ?_ Bu.out) | exact HB.out)⟩⟩
     case rest =>
      clear Ft
      try clear c1
      try clear c2
      try clear p2
      try clear c4
      try clear p4
      try clear q4
      try clear hx4
      try clear p6
      try clear c7
      try clear Fd
      try clear c8
      try clear Fp
      try clear Fh
      try clear Fq
      try clear Fe
      try clear Dw
      try clear F1
      try clear hcz23
      try clear F6
      try clear F8
      try clear Fa
      try clear F2
      try clear hfz23
      try clear F7
      try clear F9
      try clear Fb
      try clear B9
      try clear Bb
      try clear Dx
      try clear Dz
      try clear Dy
      try clear E0
      obtain ⟨kq, E1, rfl, HA, Ff, B0, HB⟩ := hcut
      cases kq with
      | zero => exact absurd HA.out (by simp [r33_Right.j1])
      | succ G7 =>
       have H := HA.out
       clear HA
       simp only [r33_Right.j1] at H
       by_cases Fz : E1 = true
       ·subst Fz
        rw [if_pos rfl] at H
        obtain rfl := Option.some.inj H
        go_wp2
        go_ret
        exact ⟨by first | rfl | (simp [*] <;> rfl), by repeat (first | (with_reducible first | exact HB.out | apply ba_ | apply bn_ | apply bd_ | refine bs_ ?_ Bu.out) | exact HB.out)⟩
       ·replace Fz := Bool.eq_false_iff.mpr Fz
        subst Fz
        rw [if_neg (show ¬ (false = true) by decide)] at H
        have H' := am_ H
        clear H
        go_wp2
        go_loopg [4] G7 (fun kq v4 w' => ∃ (D8 : Int), v4 = .int .i64 D8 ∧ Aside0 (r33_Right.l1 kq D8 Bj Bl Bm Bn Bo Bp Bq Br Bs Bt B8 B2 B6 B3 = some r) ∧ Aside0 (kq ≤ G7) ∧ Aside0 (w'.heap[B1]? = some (.cells #[.int .i64 Bj, .int .i64 Bl, .int .i64 Bm, .int .i64 Bn, .int .i64 Bo, .int .i64 Bp, .int .i64 Bq, .int .i64 Br, .int .i64 Bs, .int .i64 Bt, (.slice D3 B8.length D4), (.slice Dc B2.length Bk), (.slice D5 B6.length D6), (.slice D9 B3.length D7)] 28 (0, 0))) ∧ Aside0 (Below w.heap.size w w'))
        case atStart => exact ⟨(0), (by first | rfl | (simp; done) | (simp [*]; done)), H', ⟨Nat.le_refl _⟩, ⟨by (with_reducible repeat (first | apply kn_ | apply kd_ | apply ka_)); exact B0.out⟩, ⟨by repeat (first | (with_reducible first | exact HB.out | apply ba_ | apply bn_ | apply bd_ | refine bs_ ?_ Bu.out) | exact HB.out)⟩⟩
        case round =>
         clear H'
         try clear c1
         try clear c2
         try clear p2
         try clear c3
         try clear c4
         try clear p4
         try clear q4
         try clear hx4
         try clear p6
         try clear c7
         try clear Fd
         try clear c8
         try clear Fp
         try clear Fh
         try clear Fq
         try clear Fe
         try clear Dw
         try clear Fz
         try clear F1
         try clear hcz23
         try clear F6
         try clear F8
         try clear Fa
         try clear F2
         try clear hfz23
         try clear F7
         try clear F9
         try clear Fb
         try clear B9
         try clear Bb
         try clear p2
         try clear p4
         try clear Dx
         try clear Dz
         try clear p6
         try clear q4
         try clear Dy
         try clear E0
         obtain ⟨D8, rfl, HA, Gl, B0, HB⟩ := hrel
         cases gk with
         | zero => exact absurd HA.out (by simp [r33_Right.l1])
         | succ k3 =>
          have H := HA.out
          clear HA
          simp only [r33_Right.l1] at H
          by_cases Fu : D8 < (B6.length : Int)
          ·rw [if_pos Fu] at H
           have Fm : decide (D8 < (B6.length : Int)) = true := decide_eq_true Fu
           clear Fu
           by_cases G8 : 0 ≤ D8
           ·rw [if_pos G8] at H
            have G9 : decide (0 ≤ D8) = true := decide_eq_true G8
            clear G8
            by_cases Fv : ((rdOf ByteArray.empty B6 D8).size : Int) > 8000
            ·rw [if_pos Fv] at H
             have Fn : decide (8000 < ((rdOf ByteArray.empty B6 D8).size : Int)) = true := decide_eq_true Fv
             have Fo : decide (8000 < (rdOf ByteArray.empty B6 D8).size) = true := decide_eq_true (by omega)
             clear Fv
             obtain rfl := Option.some.inj H
             have Ga := cells_14 B0.out
             have Gb := frozen_14 B0.out
             have E8 : 0 ≤ (D8 : Int) := of_decide_eq_true (by first | (with_reducible assumption) | assumption)
             have E9 : D8 < (B6.length : Int) := of_decide_eq_true (by first | (with_reducible assumption) | assumption)
             obtain ⟨Gc, Fw, D2⟩ := Kd.at_string Ex.out D8 E8 E9
             cases Fw
             replace D2 := (HB.out.cell (World.block_lt_of_cell? w _ D2)).trans D2
             replace E8 := eq_true E8
             replace E9 := eq_true E9
             go_wp2
             go_ret
             exact ⟨by first | rfl | (simp [*] <;> rfl), by repeat (first | (with_reducible first | exact HB.out | apply ba_ | apply bn_ | apply bd_ | refine bs_ ?_ Bu.out) | exact HB.out)⟩
            ·rw [if_neg Fv] at H
             have Fn : decide (8000 < ((rdOf ByteArray.empty B6 D8).size : Int)) = false := decide_eq_false Fv
             have Fo : decide (8000 < (rdOf ByteArray.empty B6 D8).size) = false := decide_eq_false (by omega)
             clear Fv
             have H' := am_ H
             clear H
             have Gd := cells_14 B0.out
             have Ge := frozen_14 B0.out
             have E8 : 0 ≤ (D8 : Int) := of_decide_eq_true (by first | (with_reducible assumption) | assumption)
             have E9 : D8 < (B6.length : Int) := of_decide_eq_true (by first | (with_reducible assumption) | assumption)
             obtain ⟨Gc, Fw, D2⟩ := Kd.at_string Ex.out D8 E8 E9
             cases Fw
             replace D2 := (HB.out.cell (World.block_lt_of_cell? w _ D2)).trans D2
             replace E8 := eq_true E8
             replace E9 := eq_true E9
             go_wp2
             go_roundg k3
             case measure => have := Fg.out; have := Ff.out; have := Gl.out; omega
             case rel => exact ⟨(wrap64 (D8 + 1)), (by first | rfl | (simp; done) | (simp [*]; done)), H', ⟨by have := Fg.out; have := Ff.out; have := Gl.out; omega⟩, ⟨by (with_reducible repeat (first | apply kn_ | apply kd_ | apply ka_)); exact B0.out⟩, ⟨by repeat (first | (with_reducible first | exact HB.out | apply ba_ | apply bn_ | apply bd_ | refine bs_ ?_ Bu.out) | exact HB.out)⟩⟩
           ·rw [if_neg G8] at H
            exact absurd H (by simp)
          ·rw [if_neg Fu] at H
           have Fm : decide (D8 < (B6.length : Int)) = false := decide_eq_false Fu
           clear Fu
           have H' := am_ H
           clear H
           have Gf := cells_14 B0.out
           have Gg := frozen_14 B0.out
           go_wp2
           go_loopg [5] k3 (fun kq v5 w' => ∃ (B4 : Int), v5 = .int .i64 B4 ∧ Aside0 (r33_Right.l2 kq B4 Bj Bl Bm Bn Bo Bp Bq Br Bs Bt B8 B2 B6 B3 = some r) ∧ Aside0 (kq ≤ k3) ∧ Aside0 (w'.heap[B1]? = some (.cells #[.int .i64 Bj, .int .i64 Bl, .int .i64 Bm, .int .i64 Bn, .int .i64 Bo, .int .i64 Bp, .int .i64 Bq, .int .i64 Br, .int .i64 Bs, .int .i64 Bt, (.slice D3 B8.length D4), (.slice Dc B2.length Bk), (.slice D5 B6.length D6), (.slice D9 B3.length D7)] 28 (0, 0))) ∧ Aside0 (Below w.heap.size w w'))
           case atStart => exact ⟨(0), (by first | rfl | (simp; done) | (simp [*]; done)), H', ⟨Nat.le_refl _⟩, ⟨by (with_reducible repeat (first | apply kn_ | apply kd_ | apply ka_)); exact B0.out⟩, ⟨by repeat (first | (with_reducible first | exact HB.out | apply ba_ | apply bn_ | apply bd_ | refine bs_ ?_ Bu.out) | exact HB.out)⟩⟩
           case round =>
            clear H'
            try clear c1
            try clear c2
            try clear p2
            try clear c3
            try clear c4
            try clear p4
            try clear q4
            try clear hx4
            try clear p6
            try clear c7
            try clear Fd
            try clear c8
            try clear Fp
            try clear Fh
            try clear Fq
            try clear Fe
            try clear Dw
            try clear Fz
            try clear Fu
            try clear Fm
            try clear G8
            try clear G9
            try clear Fv
            try clear Fn
            try clear Fo
            try clear F1
            try clear hcz23
            try clear F6
            try clear F8
            try clear Fa
            try clear Ga
            try clear Gd
            try clear Gf
            try clear F2
            try clear hfz23
            try clear F7
            try clear F9
            try clear Fb
            try clear Gb
            try clear Ge
            try clear Gg
            try clear B9
            try clear Bb
            try clear D2
            try clear p2
            try clear p4
            try clear Dx
            try clear Dz
            try clear E8
            try clear p6
            try clear q4
            try clear Dy
            try clear E0
            try clear E9
            obtain ⟨B4, rfl, HA, J8, B0, HB⟩ := hrel
            cases gk with
            | zero => exact absurd HA.out (by simp [r33_Right.l2])
            | succ k4 =>
             have H := HA.out
             clear HA
             simp only [r33_Right.l2] at H
             by_cases G0 : B4 < (B3.length : Int)
             ·rw [if_pos G0] at H
              have Gh : decide (B4 < (B3.length : Int)) = true := decide_eq_true G0
              clear G0
              by_cases Gm : 0 ≤ B4
              ·rw [if_pos Gm] at H
               have J9 : decide (0 ≤ B4) = true := decide_eq_true Gm
               clear Gm
               obtain ⟨Fc, Ja, H⟩ := bes_ H
               try dsimp only at H
               by_cases Fx : Fc = 0
               ·rw [if_pos Fx] at H
                have Gi : (Fc == 0) = true := beq_iff_eq.mpr Fx
                have Gj : (Fc != 0) = false := bne_eq_false_iff_eq.mpr Fx
                clear Fx
                have H' := am_ H
                clear H
                have Jb := cells_14 B0.out
                have Jc := frozen_14 B0.out
                try go_wp2
                replace B0 := am_ (blk_drew B0.out)
                replace HB := am_ (below_drew1 HB.out)
                have Ea : 0 ≤ (B4 : Int) := of_decide_eq_true (by first | (with_reducible assumption) | assumption)
                have Eb : B4 < (B3.length : Int) := of_decide_eq_true (by first | (with_reducible assumption) | assumption)
                obtain ⟨Ba, Ec, Ed, Ee, Ef, Eg, Eh, Ei, Ej, Ek, El, Em, En, Fy, Bd, Be, Bf, Bg, Bh, Bi, Dd, De, Df, Dg, Dh, Di, Dj, Dk, Dl, Dm, Dn, Do⟩ := at_T44 Ey.out B4 Ea Eb
                have Bv := Bi
                have Bw := Bh
                have Bx := Bg
                have By := Bf
                have Bz := Be
                have D0 := Bd
                cases Fy
                replace Bd := (HB.out.cell (World.block_lt_of_cell? w _ Bd)).trans Bd
                replace Be := (HB.out.cell (World.block_lt_of_cell? w _ Be)).trans Be
                replace Bf := (HB.out.cell (World.block_lt_of_cell? w _ Bf)).trans Bf
                replace Bg := (HB.out.cell (World.block_lt_of_cell? w _ Bg)).trans Bg
                replace Bh := (HB.out.cell (World.block_lt_of_cell? w _ Bh)).trans Bh
                replace Bi := (HB.out.cell (World.block_lt_of_cell? w _ Bi)).trans Bi
                have Dp := am_ De
                have E2 := am_ Dd
                clear De Dd
                have Dq := am_ Dg
                have E3 := am_ Df
                clear Dg Df
                have Dr := am_ Di
                have E4 := am_ Dh
                clear Di Dh
                have Ds := am_ Dk
                have E5 := am_ Dj
                clear Dk Dj
                have Dt := am_ Dm
                have E6 := am_ Dl
                clear Dm Dl
                have Du := am_ Do
                have E7 := am_ Dn
                clear Do Dn
                replace Ea := eq_true Ea
                replace Eb := eq_true Eb
                refine start_ (n := 9) (S := fun w' => ce_ w' B1 0 (.int .i64 Bj) ∧ ce_ w' B1 1 (.int .i64 Bl) ∧ ce_ w' B1 2 (.int .i64 Bm) ∧ ce_ w' B1 3 (.int .i64 Bn) ∧ ce_ w' B1 4 (.int .i64 Bo) ∧ ce_ w' B1 5 (.int .i64 Bp) ∧ ce_ w' B1 6 (.int .i64 Bq) ∧ ce_ w' B1 7 (.int .i64 Br) ∧ ce_ w' B1 8 (.int .i64 Bs) ∧ ce_ w' B1 9 (.int .i64 Bt) ∧ ce_ w' B1 10 (.slice D3 B8.length D4) ∧ ce_ w' B1 11 (.slice Dc B2.length Bk) ∧ ce_ w' B1 12 (.slice D5 B6.length D6) ∧ ce_ w' B1 13 (.slice (some Ba) B3.length D7) ∧ w'.cell? (Ba.add ((B4).toNat * 6)) = some (.slice Ec ((rd_T44 B3 B4).f0).length Ed) ∧ w'.cell? ⟨(Ba.add ((B4).toNat * 6)).block, (Ba.add ((B4).toNat * 6)).off + 1, none⟩ = some (.slice Ee ((rd_T44 B3 B4).f1).length Ef) ∧ w'.cell? ⟨(Ba.add ((B4).toNat * 6)).block, (Ba.add ((B4).toNat * 6)).off + 2, none⟩ = some (.slice Eg ((rd_T44 B3 B4).f2).length Eh) ∧ w'.cell? ⟨(Ba.add ((B4).toNat * 6)).block, (Ba.add ((B4).toNat * 6)).off + 3, none⟩ = some (.slice Ei ((rd_T44 B3 B4).f3).length Ej) ∧ w'.cell? ⟨(Ba.add ((B4).toNat * 6)).block, (Ba.add ((B4).toNat * 6)).off + 4, none⟩ = some (.slice Ek ((rd_T44 B3 B4).f4).length El) ∧ w'.cell? ⟨(Ba.add ((B4).toNat * 6)).block, (Ba.add ((B4).toNat * 6)).off + 5, none⟩ = some (.slice Em ((rd_T44 B3 B4).f5).length En)) (ds := []) #[false, false, false, false, false, false, false, false, false] (by kernel_rfl) rfl rfl ⟨(blk_cell B0.out 0).trans rfl, (blk_cell B0.out 1).trans rfl, (blk_cell B0.out 2).trans rfl, (blk_cell B0.out 3).trans rfl, (blk_cell B0.out 4).trans rfl, (blk_cell B0.out 5).trans rfl, (blk_cell B0.out 6).trans rfl, (blk_cell B0.out 7).trans rfl, (blk_cell B0.out 8).trans rfl, (blk_cell B0.out 9).trans rfl, (blk_cell B0.out 10).trans rfl, (blk_cell B0.out 11).trans rfl, (blk_cell B0.out 12).trans rfl, (blk_cell B0.out 13).trans rfl, ((HB.out.cell (World.block_lt_of_cell? w _ D0)).trans D0), ((HB.out.cell (World.block_lt_of_cell? w _ Bz)).trans Bz), ((HB.out.cell (World.block_lt_of_cell? w _ By)).trans By), ((HB.out.cell (World.block_lt_of_cell? w _ Bx)).trans Bx), ((HB.out.cell (World.block_lt_of_cell? w _ Bw)).trans Bw), ((HB.out.cell (World.block_lt_of_cell? w _ Bv)).trans Bv)⟩ (fun hHeld => ?_); refine with_tabW r33_Right.tab18 r33_Right.bits18 (fun HT_ HW_ => ?_)
                generalize wr.drew = w43 at B0 HB Dp Dq Dr Ds Dt Du Bd Be Bf Bg Bh Bi hHeld ⊢
                refine pur_ 0 (some 76) rfl rfl (any_of HT_.out (by kernel_rfl)) ?_
                refine pur_ 2 (some 78) rfl rfl (any_of HT_.out (by kernel_rfl)) ?_
                refine pur_ 4 (some 80) rfl rfl (any_of HT_.out (by kernel_rfl)) ?_
                refine tak_ 1 (some 77) rfl rfl (take_ofW HT_.out HW_.out (by kernel_rfl)) hHeld ?_ (by rintro w' ⟨s0, s1, s2, s3, s4, s5, s6, s7, s8, s9, s10, s11, s12, s13, s14, s15, s16, s17, s18, s19⟩; (first | (refine load_cells_14 (ty := 28) (x := .tmp 1) (g := B1) ?hlo_ ?hx_ Try.underlying28 ?hd_ ?hi_ s0 s1 s2 s3 s4 s5 s6 s7 s8 s9 s10 s11 s12 s13; (case hlo_ => rfl); (case hx_ => rfl); (case hd_ => rfl); (case hi_ => kernel_rfl)) | (go_simp; with_reducible rfl)))
                refine tak_ 3 (some 79) rfl rfl (take_ofW HT_.out HW_.out (by kernel_rfl)) hHeld ?_ (by rintro w' ⟨s0, s1, s2, s3, s4, s5, s6, s7, s8, s9, s10, s11, s12, s13, s14, s15, s16, s17, s18, s19⟩; (first | (refine load_cells_14 (ty := 28) (x := .tmp 1) (g := B1) ?hlo_ ?hx_ Try.underlying28 ?hd_ ?hi_ s0 s1 s2 s3 s4 s5 s6 s7 s8 s9 s10 s11 s12 s13; (case hlo_ => rfl); (case hx_ => rfl); (case hd_ => rfl); (case hi_ => kernel_rfl)) | (go_simp; with_reducible rfl)))
                refine pur_ 5 (some 81) rfl rfl (any_of HT_.out (by kernel_rfl)) ?_
                refine tak_ 6 (some 82) rfl rfl (take_ofW HT_.out HW_.out (by kernel_rfl)) hHeld ?_ (by rintro w' ⟨s0, s1, s2, s3, s4, s5, s6, s7, s8, s9, s10, s11, s12, s13, s14, s15, s16, s17, s18, s19⟩; (first | (refine load_cells_14 (ty := 28) (x := .tmp 1) (g := B1) ?hlo_ ?hx_ Try.underlying28 ?hd_ ?hi_ s0 s1 s2 s3 s4 s5 s6 s7 s8 s9 s10 s11 s12 s13; (case hlo_ => rfl); (case hx_ => rfl); (case hd_ => rfl); (case hi_ => kernel_rfl)) | (go_simp; with_reducible rfl)))
                refine oon_ 7 (some 83) rfl rfl (one_of HT_.out (by kernel_rfl)) (fun K hK => ?_)
                refine gos_ Try.func45 (r33_tick.calls k4 Bj Bl Bm Bn Bo Bp Bq Br Bs Bt _ _ B8 _ _ ((rd_T44 B3 B4).f0) _ _ ((rd_T44 B3 B4).f1) _ _ ((rd_T44 B3 B4).f2) _ _ ((rd_T44 B3 B4).f3) _ _ ((rd_T44 B3 B4).f4) _ _ ((rd_T44 B3 B4).f5) _ _ (Kd.C_below Da.out HB.out) Db.out ?side3 ?side4 ?side5 ?side6 ?side7 ?side8 ?side9 ?side10 ?side11 ?side12 ?side13 ?side14 Ja.out) ?_
                (case side3 => exact (Kd.C_below Dp.out HB.out))
                (case side4 => exact E2.out)
                (case side5 => exact (Kd.C_below Dq.out HB.out))
                (case side6 => exact E3.out)
                (case side7 => exact (Kd.C_below Dr.out HB.out))
                (case side8 => exact E4.out)
                (case side9 => exact (Kd.C_below Ds.out HB.out))
                (case side10 => exact E5.out)
                (case side11 => exact (Kd.C_below Dt.out HB.out))
                (case side12 => exact E6.out)
                (case side13 => exact (Kd.C_below Du.out HB.out))
                (case side14 => exact E7.out)
                rintro e w44 ⟨rfl, hb⟩
                refine ⟨_, rfl, ?_⟩
                replace B0 := bkb_ B0 hb
                replace HB := bst_ HB hb
                (try clear hb)
                (try clear hb2)
                (try clear hk)
                (try clear hi)
                refine hK.out _ _ (and_14 B0.out ⟨((HB.out.cell (World.block_lt_of_cell? w _ D0)).trans D0), ((HB.out.cell (World.block_lt_of_cell? w _ Bz)).trans Bz), ((HB.out.cell (World.block_lt_of_cell? w _ By)).trans By), ((HB.out.cell (World.block_lt_of_cell? w _ Bx)).trans Bx), ((HB.out.cell (World.block_lt_of_cell? w _ Bw)).trans Bw), ((HB.out.cell (World.block_lt_of_cell? w _ Bv)).trans Bv)⟩) (fun hHeld => ?_)
                clear hK K
                refine nor_ 83 ?_
                refine pur_ 8 (some 6) rfl rfl (any_of HT_.out (by kernel_rfl)) ?_
                refine done_ (done_of HT_.out (by kernel_rfl)) ?_
                try go_wp2
                go_roundg k4
                case measure => have := Fg.out; have := Ff.out; have := Gl.out; have := J8.out; omega
                case rel => exact ⟨(wrap64 (B4 + 1)), (by first | rfl | (simp; done) | (simp [*]; done)), H', ⟨by have := Fg.out; have := Ff.out; have := Gl.out; have := J8.out; omega⟩, ⟨by (with_reducible repeat (first | apply kn_ | apply kd_ | apply ka_)); exact B0.out⟩, ⟨by repeat (first | (with_reducible first | exact HB.out | apply ba_ | apply bn_ | apply bd_ | refine bs_ ?_ Bu.out) | exact HB.out)⟩⟩
               ·rw [if_neg Fx] at H
                have Gi : (Fc == 0) = false := beq_eq_false_iff_ne.mpr Fx
                have Gj : (Fc != 0) = true := bne_iff_ne.mpr Fx
                obtain rfl := Option.some.inj H
                have Jd := cells_14 B0.out
                have Je := frozen_14 B0.out
                try go_wp2
                replace B0 := am_ (blk_drew B0.out)
                replace HB := am_ (below_drew1 HB.out)
                have Ea : 0 ≤ (B4 : Int) := of_decide_eq_true (by first | (with_reducible assumption) | assumption)
                have Eb : B4 < (B3.length : Int) := of_decide_eq_true (by first | (with_reducible assumption) | assumption)
                obtain ⟨Ba, Ec, Ed, Ee, Ef, Eg, Eh, Ei, Ej, Ek, El, Em, En, Fy, Bd, Be, Bf, Bg, Bh, Bi, Dd, De, Df, Dg, Dh, Di, Dj, Dk, Dl, Dm, Dn, Do⟩ := at_T44 Ey.out B4 Ea Eb
                have Bv := Bi
                have Bw := Bh
                have Bx := Bg
                have By := Bf
                have Bz := Be
                have D0 := Bd
                cases Fy
                replace Bd := (HB.out.cell (World.block_lt_of_cell? w _ Bd)).trans Bd
                replace Be := (HB.out.cell (World.block_lt_of_cell? w _ Be)).trans Be
                replace Bf := (HB.out.cell (World.block_lt_of_cell? w _ Bf)).trans Bf
                replace Bg := (HB.out.cell (World.block_lt_of_cell? w _ Bg)).trans Bg
                replace Bh := (HB.out.cell (World.block_lt_of_cell? w _ Bh)).trans Bh
                replace Bi := (HB.out.cell (World.block_lt_of_cell? w _ Bi)).trans Bi
                have Dp := am_ De
                have E2 := am_ Dd
                clear De Dd
                have Dq := am_ Dg
                have E3 := am_ Df
                clear Dg Df
                have Dr := am_ Di
                have E4 := am_ Dh
                clear Di Dh
                have Ds := am_ Dk
                have E5 := am_ Dj
                clear Dk Dj
                have Dt := am_ Dm
                have E6 := am_ Dl
                clear Dm Dl
                have Du := am_ Do
                have E7 := am_ Dn
                clear Do Dn
                replace Ea := eq_true Ea
                replace Eb := eq_true Eb
                refine start_ (n := 9) (S := fun w' => ce_ w' B1 0 (.int .i64 Bj) ∧ ce_ w' B1 1 (.int .i64 Bl) ∧ ce_ w' B1 2 (.int .i64 Bm) ∧ ce_ w' B1 3 (.int .i64 Bn) ∧ ce_ w' B1 4 (.int .i64 Bo) ∧ ce_ w' B1 5 (.int .i64 Bp) ∧ ce_ w' B1 6 (.int .i64 Bq) ∧ ce_ w' B1 7 (.int .i64 Br) ∧ ce_ w' B1 8 (.int .i64 Bs) ∧ ce_ w' B1 9 (.int .i64 Bt) ∧ ce_ w' B1 10 (.slice D3 B8.length D4) ∧ ce_ w' B1 11 (.slice Dc B2.length Bk) ∧ ce_ w' B1 12 (.slice D5 B6.length D6) ∧ ce_ w' B1 13 (.slice (some Ba) B3.length D7) ∧ w'.cell? (Ba.add ((B4).toNat * 6)) = some (.slice Ec ((rd_T44 B3 B4).f0).length Ed) ∧ w'.cell? ⟨(Ba.add ((B4).toNat * 6)).block, (Ba.add ((B4).toNat * 6)).off + 1, none⟩ = some (.slice Ee ((rd_T44 B3 B4).f1).length Ef) ∧ w'.cell? ⟨(Ba.add ((B4).toNat * 6)).block, (Ba.add ((B4).toNat * 6)).off + 2, none⟩ = some (.slice Eg ((rd_T44 B3 B4).f2).length Eh) ∧ w'.cell? ⟨(Ba.add ((B4).toNat * 6)).block, (Ba.add ((B4).toNat * 6)).off + 3, none⟩ = some (.slice Ei ((rd_T44 B3 B4).f3).length Ej) ∧ w'.cell? ⟨(Ba.add ((B4).toNat * 6)).block, (Ba.add ((B4).toNat * 6)).off + 4, none⟩ = some (.slice Ek ((rd_T44 B3 B4).f4).length El) ∧ w'.cell? ⟨(Ba.add ((B4).toNat * 6)).block, (Ba.add ((B4).toNat * 6)).off + 5, none⟩ = some (.slice Em ((rd_T44 B3 B4).f5).length En)) (ds := []) #[false, false, false, false, false, false, false, false, false] (by kernel_rfl) rfl rfl ⟨(blk_cell B0.out 0).trans rfl, (blk_cell B0.out 1).trans rfl, (blk_cell B0.out 2).trans rfl, (blk_cell B0.out 3).trans rfl, (blk_cell B0.out 4).trans rfl, (blk_cell B0.out 5).trans rfl, (blk_cell B0.out 6).trans rfl, (blk_cell B0.out 7).trans rfl, (blk_cell B0.out 8).trans rfl, (blk_cell B0.out 9).trans rfl, (blk_cell B0.out 10).trans rfl, (blk_cell B0.out 11).trans rfl, (blk_cell B0.out 12).trans rfl, (blk_cell B0.out 13).trans rfl, ((HB.out.cell (World.block_lt_of_cell? w _ D0)).trans D0), ((HB.out.cell (World.block_lt_of_cell? w _ Bz)).trans Bz), ((HB.out.cell (World.block_lt_of_cell? w _ By)).trans By), ((HB.out.cell (World.block_lt_of_cell? w _ Bx)).trans Bx), ((HB.out.cell (World.block_lt_of_cell? w _ Bw)).trans Bw), ((HB.out.cell (World.block_lt_of_cell? w _ Bv)).trans Bv)⟩ (fun hHeld => ?_); refine with_tabW r33_Right.tab18 r33_Right.bits18 (fun HT_ HW_ => ?_)
                generalize wr.drew = w46 at B0 HB Dp Dq Dr Ds Dt Du Bd Be Bf Bg Bh Bi hHeld ⊢
                refine pur_ 0 (some 76) rfl rfl (any_of HT_.out (by kernel_rfl)) ?_
                refine pur_ 2 (some 78) rfl rfl (any_of HT_.out (by kernel_rfl)) ?_
                refine pur_ 4 (some 80) rfl rfl (any_of HT_.out (by kernel_rfl)) ?_
                refine tak_ 1 (some 77) rfl rfl (take_ofW HT_.out HW_.out (by kernel_rfl)) hHeld ?_ (by rintro w' ⟨s0, s1, s2, s3, s4, s5, s6, s7, s8, s9, s10, s11, s12, s13, s14, s15, s16, s17, s18, s19⟩; (first | (refine load_cells_14 (ty := 28) (x := .tmp 1) (g := B1) ?hlo_ ?hx_ Try.underlying28 ?hd_ ?hi_ s0 s1 s2 s3 s4 s5 s6 s7 s8 s9 s10 s11 s12 s13; (case hlo_ => rfl); (case hx_ => rfl); (case hd_ => rfl); (case hi_ => kernel_rfl)) | (go_simp; with_reducible rfl)))
                refine tak_ 3 (some 79) rfl rfl (take_ofW HT_.out HW_.out (by kernel_rfl)) hHeld ?_ (by rintro w' ⟨s0, s1, s2, s3, s4, s5, s6, s7, s8, s9, s10, s11, s12, s13, s14, s15, s16, s17, s18, s19⟩; (first | (refine load_cells_14 (ty := 28) (x := .tmp 1) (g := B1) ?hlo_ ?hx_ Try.underlying28 ?hd_ ?hi_ s0 s1 s2 s3 s4 s5 s6 s7 s8 s9 s10 s11 s12 s13; (case hlo_ => rfl); (case hx_ => rfl); (case hd_ => rfl); (case hi_ => kernel_rfl)) | (go_simp; with_reducible rfl)))
                refine pur_ 5 (some 81) rfl rfl (any_of HT_.out (by kernel_rfl)) ?_
                refine tak_ 6 (some 82) rfl rfl (take_ofW HT_.out HW_.out (by kernel_rfl)) hHeld ?_ (by rintro w' ⟨s0, s1, s2, s3, s4, s5, s6, s7, s8, s9, s10, s11, s12, s13, s14, s15, s16, s17, s18, s19⟩; (first | (refine load_cells_14 (ty := 28) (x := .tmp 1) (g := B1) ?hlo_ ?hx_ Try.underlying28 ?hd_ ?hi_ s0 s1 s2 s3 s4 s5 s6 s7 s8 s9 s10 s11 s12 s13; (case hlo_ => rfl); (case hx_ => rfl); (case hd_ => rfl); (case hi_ => kernel_rfl)) | (go_simp; with_reducible rfl)))
                refine oon_ 7 (some 83) rfl rfl (one_of HT_.out (by kernel_rfl)) (fun K hK => ?_)
                refine gos_ Try.func45 (r33_tick.calls k4 Bj Bl Bm Bn Bo Bp Bq Br Bs Bt _ _ B8 _ _ ((rd_T44 B3 B4).f0) _ _ ((rd_T44 B3 B4).f1) _ _ ((rd_T44 B3 B4).f2) _ _ ((rd_T44 B3 B4).f3) _ _ ((rd_T44 B3 B4).f4) _ _ ((rd_T44 B3 B4).f5) _ _ (Kd.C_below Da.out HB.out) Db.out ?side3 ?side4 ?side5 ?side6 ?side7 ?side8 ?side9 ?side10 ?side11 ?side12 ?side13 ?side14 Ja.out) ?_
                (case side3 => exact (Kd.C_below Dp.out HB.out))
                (case side4 => exact E2.out)
                (case side5 => exact (Kd.C_below Dq.out HB.out))
                (case side6 => exact E3.out)
                (case side7 => exact (Kd.C_below Dr.out HB.out))
                (case side8 => exact E4.out)
                (case side9 => exact (Kd.C_below Ds.out HB.out))
                (case side10 => exact E5.out)
                (case side11 => exact (Kd.C_below Dt.out HB.out))
                (case side12 => exact E6.out)
                (case side13 => exact (Kd.C_below Du.out HB.out))
                (case side14 => exact E7.out)
                rintro e w47 ⟨rfl, hb⟩
                refine ⟨_, rfl, ?_⟩
                replace B0 := bkb_ B0 hb
                replace HB := bst_ HB hb
                (try clear hb)
                (try clear hb2)
                (try clear hk)
                (try clear hi)
                refine hK.out _ _ (and_14 B0.out ⟨((HB.out.cell (World.block_lt_of_cell? w _ D0)).trans D0), ((HB.out.cell (World.block_lt_of_cell? w _ Bz)).trans Bz), ((HB.out.cell (World.block_lt_of_cell? w _ By)).trans By), ((HB.out.cell (World.block_lt_of_cell? w _ Bx)).trans Bx), ((HB.out.cell (World.block_lt_of_cell? w _ Bw)).trans Bw), ((HB.out.cell (World.block_lt_of_cell? w _ Bv)).trans Bv)⟩) (fun hHeld => ?_)
                clear hK K
                refine nor_ 83 ?_
                refine pur_ 8 (some 6) rfl rfl (any_of HT_.out (by kernel_rfl)) ?_
                refine done_ (done_of HT_.out (by kernel_rfl)) ?_
                try go_wp2
                go_ret
                exact ⟨by first | rfl | (simp [*] <;> rfl), by repeat (first | (with_reducible first | exact HB.out | apply ba_ | apply bn_ | apply bd_ | refine bs_ ?_ Bu.out) | exact HB.out)⟩
              ·rw [if_neg Gm] at H
               exact absurd H (by simp)
             ·rw [if_neg G0] at H
              have Gh : decide (B4 < (B3.length : Int)) = false := decide_eq_false G0
              clear G0
              obtain rfl := Option.some.inj H
              have Jf := cells_14 B0.out
              have Jg := frozen_14 B0.out
              go_wp2
              go_ret
              exact ⟨by first | rfl | (simp [*] <;> rfl), by repeat (first | (with_reducible first | exact HB.out | apply ba_ | apply bn_ | apply bd_ | refine bs_ ?_ Bu.out) | exact HB.out)⟩
 ·rw [if_neg c3] at H
  have G1 : (Ez == 0) = false := beq_eq_false_iff_ne.mpr c3
  have G2 : (Ez != 0) = true := bne_iff_ne.mpr c3
  replace H := Option.bind_eq_some_iff.mp H
  obtain ⟨Gx, Gk, H⟩ := H
  replace H : (some Gx) = some r := H
  have Jm := am_ Gk
  clear Gk
  obtain rfl := Option.some.inj H
  go_enter Try.func13, Try.ntmps13
  go_wp2_with (first | ((with_reducible refine gate_load (t := 28) (x := .tmp 1) rfl ?_); refine lrg_ 28 (.tmp 1) B1 28 (by exact B0.out) Try.underlying28 ?_) | ((with_reducible refine gate_dst (N := 1) rfl ?_); (try (refine gate_guard (by rfl) ?_; dsimp only)); refine bxe_ 1 28 #[.int .i64 Bj, .int .i64 Bl, .int .i64 Bm, .int .i64 Bn, .int .i64 Bo, .int .i64 Bp, .int .i64 Bq, .int .i64 Br, .int .i64 Bs, .int .i64 Bt, .slice D3 B8.length D4, .slice Dc B2.length Bk, .slice D5 B6.length D6, .slice D9 B3.length D7] ?_; intro B1 hg w50 hbox hb; have B0 := am_ (hbox); have F0 := gwk_ HB hg; have Bu := F0; replace HB := bst_ HB hb; clear hb hbox hg; have Gy := cells_14 B0.out; have Gz := frozen_14 B0.out) | ((with_reducible refine gate_callee (f := 42) rfl ?_); refine gom_ (some 9) Try.func42 (r04_Right.calls k Bj Bl Bm Bn Bo Bp Bq Br Bs Bt _ _ B8 _ _ (Kd.C_below Da.out HB.out) Db.out A2.out) ?_; rintro e w52 ⟨rfl, hb⟩; refine ⟨_, rfl, ?_⟩; replace B0 := bkb_ B0 hb; replace HB := bst_ HB hb; (try clear hb); have J0 := cells_14 B0.out; have J1 := frozen_14 B0.out) | ((with_reducible refine gate_callee (f := 42) rfl ?_); refine gom_ (some 13) Try.func42 (r04_Right.calls k Bj Bl Bm Bn Bo Bp Bq Br Bs Bt _ _ B8 _ _ (Kd.C_below Da.out HB.out) Db.out Jm.out) ?_; rintro e w54 ⟨rfl, hb⟩; refine ⟨_, rfl, ?_⟩; replace B0 := bkb_ B0 hb; replace HB := bst_ HB hb; (try clear hb)))
  go_ret
  exact ⟨by first | rfl | (simp [*] <;> rfl), by repeat (first | (with_reducible first | exact HB.out | apply ba_ | apply bn_ | apply bd_ | refine bs_ ?_ Bu.out) | exact HB.out)⟩
end Go.Proofs.Ythdoghhmooodjaa.Gn
