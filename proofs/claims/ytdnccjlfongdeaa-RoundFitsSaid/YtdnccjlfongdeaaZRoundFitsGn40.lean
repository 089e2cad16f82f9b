import Derived.Test.YtdnccjlfongdeaaZRoundFitsGn0
import Derived.Test.YtdnccjlfongdeaaZRoundFitsGn2
import Derived.Test.YtdnccjlfongdeaaZRoundFitsGn3
import Derived.Test.YtdnccjlfongdeaaZRoundFitsGn20
import Derived.Test.YtdnccjlfongdeaaZRoundFitsGn22
import Derived.Test.YtdnccjlfongdeaaZRoundFitsGn39
namespace Go.Proofs.Ytdnccjlfongdeaa.Gn
open Go.RowKit Go.Proofs.YtdnccjlfongdeaaW.PrintWords Go.Proofs.YtdnccjlfongdeaaW.PrintLast Go.Proofs.YtdnccjlfongdeaaW.PrintMore
attribute [local go_sem] max2_int min2_int max_two min_two max_three min_three max_four min_four   -- for this text's walks alone
set_option linter.unusedVariables false
set_option linter.unusedSimpArgs false
def l38_RoundFits.j0 : Nat → List Int → Bool → Int → Int → Int → Int → Int → Int → Int → Int → Int → Int → List Int → Int → ByteArray → List ByteArray → List (List (S45)) → Option (Bool)
 | 0, _, _, _, _, _, _, _, _, _, _, _, _, _, _, _, _, _ => none
 | k + 1, x1, Bj, B0, B1, B2, B3, B4, B5, B6, B7, B8, B9, Ba, Bb, Bc, Bd, Be => if Bj = true then ((l38_known.f k).bind fun Bf => (some Bf)) else ((round_Fits.f k B0 B1 B2 B3 B4 B5 B6 B7 B8 B9 Ba x1 Bb Bc Bd Be).bind fun Bg => ((r38_Fits.f k B0 B1 B2 B3 B4 B5 B6 B7 B8 B9 Ba x1 Bb Bc Bd Be).bind fun Bh => (if Bg = Bh then ((l38_known.f k).bind fun Bi => (some Bi)) else (none))))
def l38_RoundFits.f (k : Nat) (B3 B4 B5 B6 B7 B8 B9 Ba Bb Bc : Int) (B0 l1 : List Int) (Bd : Int) (Be : ByteArray) (B1 : List ByteArray) (B2 : List (List (S45))) : Option (Bool) := (r38_Few.f k B1 B2).bind fun Bf => (if Bf = true then (l38_RoundFits.j0 k l1 (decide ((l1.length : Int) > 20)) B3 B4 B5 B6 B7 B8 B9 Ba Bb Bc B0 Bd Be B1 B2) else (l38_RoundFits.j0 k l1 true B3 B4 B5 B6 B7 B8 B9 Ba Bb Bc B0 Bd Be B1 B2))
def l38_RoundFits.T3 : Bool × List (List Nat × List Nat) := (true, [([], []), ([], []), ([], []), ([0, 1, 2], [0, 1, 2]), ([], []), ([], []), ([], []), ([4, 5, 6, 3], [4, 5, 6]), ([3, 7], [3, 7]), ([8, 7], [8]), ([9, 9], [9]), ([9, 10], [9, 10]), ([11, 10, 0, 1, 2, 3, 4, 5, 6, 7, 8, 9, 10, 11], [11])])
def l38_RoundFits.B3 : List Nat := [0, 0, 0, 7, 0, 0, 0, 127, 255, 511, 1023, 2047, 4095]
theorem l38_RoundFits.tab3 : rtab .any (opsOf Try.f4 3) = l38_RoundFits.T3 := by kernel_rfl
theorem l38_RoundFits.bits3 : waitsOk l38_RoundFits.T3.2 l38_RoundFits.B3 = true := by kernel_rfl
set_option maxHeartbeats 8000000 in
set_option maxRecDepth 100000 in
theorem l38_RoundFits.calls (k : Nat) (Ba Bb Bc Bd Be Bf Bg Bh Bi Bj : Int) (Bk : Option Addr) (Bl : Nat) (B3 : List Int) (A1 : Option Addr) (c1 : Nat) (l1 : List Int) (B8 : Int) (B9 : ByteArray) (Bp : Option Addr) (Bq : Nat) (B5 : List ByteArray) (Br : Option Addr) (Bs : Nat) (B6 : List (List (S45))) (r : Bool) (w : World) (Bu : Kd.C (Kd.int .i64) w Bk B3.length B3) (Bv : B3.length ≤ Bl) (Dt : Kd.C (Kd.int .i64) w A1 l1.length l1) (Du : l1.length ≤ c1) (Dc : Kd.C Kd.string w Bp B5.length B5) (Dd : B5.length ≤ Bq) (De : Kd.C (Kd.slice 45 k45) w Br B6.length B6) (Df : B6.length ≤ Bs) (h : l38_RoundFits.f k Ba Bb Bc Bd Be Bf Bg Bh Bi Bj B3 l1 B8 B9 B5 B6 = some r) :
  Calls Try.prog 4 #[.agg #[.int .i64 Ba, .int .i64 Bb, .int .i64 Bc, .int .i64 Bd, .int .i64 Be, .int .i64 Bf, .int .i64 Bg, .int .i64 Bh, .int .i64 Bi, .int .i64 Bj, .slice Bk B3.length Bl], .slice A1 l1.length c1, .agg #[.int .i64 B8, .string B9, .slice Bp B5.length Bq, .slice Br B6.length Bs]] w fun e w' => e = .returned (.bool r) ∧ Below w.heap.size w w' := by
 have Dx := Try.underlying32
 have Bw := am_ Bu
 have Bx := am_ Bv
 clear Bu Bv
 have Dv := am_ Dt
 have Dw := am_ Du
 clear Dt Du
 have By := am_ Dc
 have Bz := am_ Dd
 clear Dc Dd
 have D0 := am_ De
 have D1 := am_ Df
 clear De Df
 have HB := am_ (Below.refl w.heap.size w)
 have H := h
 unfold l38_RoundFits.f at H
 clear h
 have Dp := am_ H
 clear H
 go_enter Try.func4, Try.ntmps4
 go_upto_region 1 with (first | ((with_reducible refine gate_load (t := 24) (x := .tmp 3) rfl ?_); refine lrg_ 24 (.tmp 3) B2 24 (by exact B1.out) Try.underlying24 ?_) | ((with_reducible refine gate_dst (N := 3) rfl ?_); (try (refine gate_guard (by rfl) ?_; dsimp only)); refine bxe_ 3 24 #[.int .i64 Ba, .int .i64 Bb, .int .i64 Bc, .int .i64 Bd, .int .i64 Be, .int .i64 Bf, .int .i64 Bg, .int .i64 Bh, .int .i64 Bi, .int .i64 Bj, .slice Bk B3.length Bl] ?_; intro B2 hg w5 hbox hb; have B1 := am_ (hbox); have Dh := gwk_ HB hg; have Bm := Dh; replace HB := bst_ HB hb; clear hb hbox hg) | ((with_reducible refine gate_dst (N := 5) rfl ?_); (try (refine gate_guard (by rfl) ?_; dsimp only)); refine bxe_ 5 32 #[.int .i64 B8, .string B9, .slice Bp B5.length Bq, .slice Br B6.length Bs] ?_; intro B4 hg w6 hbox hb; have B0 := am_ (hbox); have Di := gwk_ HB hg; have Bn := Di; replace HB := bst_ HB hb; have B7 := nbk_ B1 hg; have Bt := nbs_ B7; replace B1 := bkb_ B1 hb; clear hb hbox hg))
 (try simp only [Act.put, zs_])
 go_cut [17] (fun v17 wc => ∃ (kq : Nat) (Bo : Bool), v17 = .bool Bo ∧ Aside0 (l38_RoundFits.j0 kq l1 Bo Ba Bb Bc Bd Be Bf Bg Bh Bi Bj B3 B8 B9 B5 B6 = some r) ∧ Aside0 (kq ≤ k) ∧ Aside0 (wc.heap[B2]? = some (.cells #[.int .i64 Ba, .int .i64 Bb, .int .i64 Bc, .int .i64 Bd, .int .i64 Be, .int .i64 Bf, .int .i64 Bg, .int .i64 Bh, .int .i64 Bi, .int .i64 Bj, (.slice Bk B3.length Bl)] 24 (0, 0))) ∧ Aside0 (wc.heap[B4]? = some (.cells #[.int .i64 B8, .string B9, (.slice Bp B5.length Bq), (.slice Br B6.length Bs)] 32 (0, 0))) ∧ Aside0 (Below w.heap.size w wc))
 case first =>
  have H := Dp.out
  clear Dp
  obtain ⟨Dq, A7, H⟩ := bes_ H
  try dsimp only at H
  by_cases c8 : Dq = true
  subst c8
  rw [if_pos rfl] at H
  rotate_left
  replace c8 := Bool.eq_false_iff.mpr c8
  subst c8
  rw [if_neg (show ¬ (false = true) by decide)] at H
  rotate_left
  all_goals
   have H' := am_ H
   clear H
   have Dy := Bt.out
   have Dz := B7.out
   have D4 : w6.cell? ⟨B4, 0, none⟩ = some (.int .i64 B8) := (blk_cell B0.out 0).trans rfl
   have D5 : w6.cell? ⟨B4, 1, none⟩ = some (.string B9) := (blk_cell B0.out 1).trans rfl
   have D6 : w6.cell? ⟨B4, 2, none⟩ = some (.slice Bp B5.length Bq) := (blk_cell B0.out 2).trans rfl
   have D7 : w6.cell? ⟨B4, 3, none⟩ = some (.slice Br B6.length Bs) := (blk_cell B0.out 3).trans rfl
   have D8 := blk_frozen B0.out 0
   have D9 := blk_frozen B0.out 1
   have Da := blk_frozen B0.out 2
   have Db := blk_frozen B0.out 3
   go_wp2_with (first | ((with_reducible refine gate_load (t := 24) (x := .tmp 3) rfl ?_); refine lrg_ 24 (.tmp 3) B2 24 (by exact B1.out) Try.underlying24 ?_) | ((with_reducible refine gate_callee (f := 7) rfl ?_); refine gom_ (some 11) Try.func7 (r38_Few.calls k _ _ B5 _ _ B6 _ _ (Kd.C_below By.out HB.out) Bz.out (Kd.C_below D0.out HB.out) D1.out A7.out) ?_; rintro e w' ⟨rfl, ⟨nd, rfl⟩⟩; refine ⟨_, rfl, ?_⟩))
   go_meet
  ·case rel => exact ⟨_, (decide ((l1.length : Int) > 20)), (by first | rfl | (simp; done) | (simp [*]; done)), H', ⟨by first | omega | exact Nat.le_refl _⟩, ⟨by (with_reducible repeat (first | apply kn_ | apply kd_ | apply ka_)); exact B1.out⟩, ⟨by (with_reducible repeat (first | apply kn_ | apply kd_ | apply ka_)); exact B0.out⟩, ⟨by repeat (first | (with_reducible first | exact HB.out | apply ba_ | apply bn_ | apply bd_ | refine bs_ ?_ Bm.out | refine bs_ ?_ Bn.out) | exact HB.out)⟩⟩
  ·case rel => exact ⟨_, (true), (by first | rfl | (simp; done) | (simp [*]; done)), H', ⟨by first | omega | exact Nat.le_refl _⟩, ⟨by (with_reducible repeat (first | apply kn_ | apply kd_ | apply ka_)); exact B1.out⟩, ⟨by (with_reducible repeat (first | apply kn_ | apply kd_ | apply ka_)); exact B0.out⟩, ⟨by repeat (first | (with_reducible first | exact HB.out | apply ba_ | apply bn_ | apply bd_ | refine bs_ ?_ Bm.out | refine bs_ ?_ Bn.out) | exact HB.out)⟩⟩
 case rest =>
  clear Dp
  try clear c1
  try clear c2
  try clear p2
  try clear c4
  try clear c7
  try clear c8
  try clear c9
  try clear c11
  try clear D4 D5 D6 D7
  try clear hcz12_0 hcz12_1 hcz12_2 hcz12_3
  try clear D8 D9 Da Db
  try clear hfz12_0 hfz12_1 hfz12_2 hfz12_3
  obtain ⟨kq, Bo, rfl, HA, E4, B1, B0, HB⟩ := hcut
  cases kq with
  | zero => exact absurd HA.out (by simp [l38_RoundFits.j0])
  | succ Dn =>
   have H := HA.out
   clear HA
   simp only [l38_RoundFits.j0] at H
   by_cases Do : Bo = true
   ·subst Do
    rw [if_pos rfl] at H
    replace H := Option.bind_eq_some_iff.mp H
    obtain ⟨Dr, Dj, H⟩ := H
    replace H : (some Dr) = some r := H
    have E0 := am_ Dj
    clear Dj
    obtain rfl := Option.some.inj H
    go_wp2_with (first | ((with_reducible refine gate_load (t := 24) (x := .tmp 3) rfl ?_); refine lrg_ 24 (.tmp 3) B2 24 (by exact B1.out) Try.underlying24 ?_) | ((with_reducible refine gate_callee (f := 8) rfl ?_); refine gom_ (some 18) Try.func8 (l38_known.calls Dn  _ _ E0.out) ?_; rintro e w15 ⟨rfl, hb⟩; refine ⟨_, rfl, ?_⟩; replace B1 := bkb_ B1 hb; replace B0 := bkb_ B0 hb; replace HB := bst_ HB hb; (try clear hb)))
    go_ret
    exact ⟨by first | rfl | (simp [*] <;> rfl), by repeat (first | (with_reducible first | exact HB.out | apply ba_ | apply bn_ | apply bd_ | refine bs_ ?_ Bm.out | refine bs_ ?_ Bn.out) | exact HB.out)⟩
   ·replace Do := Bool.eq_false_iff.mpr Do
    subst Do
    rw [if_neg (show ¬ (false = true) by decide)] at H
    obtain ⟨D2, E1, H⟩ := bes_ H
    try dsimp only at H
    obtain ⟨D3, E2, H⟩ := bes_ H
    try dsimp only at H
    by_cases Dg : D2 = D3
    ·rw [if_pos Dg] at H
     have Dk : (D2 == D3) = true := beq_iff_eq.mpr Dg
     have Dl : (D2 != D3) = false := bne_eq_false_iff_eq.mpr Dg
     clear Dg
     replace H := Option.bind_eq_some_iff.mp H
     obtain ⟨Ds, Dm, H⟩ := H
     replace H : (some Ds) = some r := H
     have E3 := am_ Dm
     clear Dm
     obtain rfl := Option.some.inj H
     try go_wp2
     replace B1 := am_ (blk_drew B1.out)
     replace B0 := am_ (blk_drew B0.out)
     replace HB := am_ (below_drew1 HB.out)
     refine start_ (n := 13) (S := fun w' => ce_ w' B2 0 (.int .i64 Ba) ∧ ce_ w' B2 1 (.int .i64 Bb) ∧ ce_ w' B2 2 (.int .i64 Bc) ∧ ce_ w' B2 3 (.int .i64 Bd) ∧ ce_ w' B2 4 (.int .i64 Be) ∧ ce_ w' B2 5 (.int .i64 Bf) ∧ ce_ w' B2 6 (.int .i64 Bg) ∧ ce_ w' B2 7 (.int .i64 Bh) ∧ ce_ w' B2 8 (.int .i64 Bi) ∧ ce_ w' B2 9 (.int .i64 Bj) ∧ ce_ w' B2 10 (.slice Bk B3.length Bl) ∧ ce_ w' B4 0 (.int .i64 B8) ∧ ce_ w' B4 1 (.string B9) ∧ ce_ w' B4 2 (.slice Bp B5.length Bq) ∧ ce_ w' B4 3 (.slice Br B6.length Bs)) (ds := []) #[false, false, false, false, false, false, false, false, false, false, false, false, false] (by kernel_rfl) rfl rfl ⟨(blk_cell B1.out 0).trans rfl, (blk_cell B1.out 1).trans rfl, (blk_cell B1.out 2).trans rfl, (blk_cell B1.out 3).trans rfl, (blk_cell B1.out 4).trans rfl, (blk_cell B1.out 5).trans rfl, (blk_cell B1.out 6).trans rfl, (blk_cell B1.out 7).trans rfl, (blk_cell B1.out 8).trans rfl, (blk_cell B1.out 9).trans rfl, (blk_cell B1.out 10).trans rfl, (blk_cell B0.out 0).trans rfl, (blk_cell B0.out 1).trans rfl, (blk_cell B0.out 2).trans rfl, (blk_cell B0.out 3).trans rfl⟩ (fun hHeld => ?_); refine with_tabW l38_RoundFits.tab3 l38_RoundFits.bits3 (fun HT_ HW_ => ?_)
     generalize wc.drew = w20 at B1 B0 HB hHeld ⊢
     refine pur_ 1 (some 20) rfl rfl (any_of HT_.out (by kernel_rfl)) ?_
     refine pur_ 5 (some 24) rfl rfl (any_of HT_.out (by kernel_rfl)) ?_
     refine tak_ 0 (some 19) rfl rfl (take_ofW HT_.out HW_.out (by kernel_rfl)) hHeld ?_ (by rintro w' ⟨s0, s1, s2, s3, s4, s5, s6, s7, s8, s9, s10, s11, s12, s13, s14⟩; (first | (refine load_cells_11 (ty := 24) (x := .tmp 3) (g := B2) ?hlo_ ?hx_ Try.underlying24 ?hd_ ?hi_ s0 s1 s2 s3 s4 s5 s6 s7 s8 s9 s10; (case hlo_ => rfl); (case hx_ => rfl); (case hd_ => rfl); (case hi_ => kernel_rfl)) | (go_simp; with_reducible rfl)))
     refine tak_ 2 (some 21) rfl rfl (take_ofW HT_.out HW_.out (by kernel_rfl)) hHeld ?_ (by rintro w' ⟨s0, s1, s2, s3, s4, s5, s6, s7, s8, s9, s10, s11, s12, s13, s14⟩; (first | (refine load_cells_11 (ty := 24) (x := .tmp 3) (g := B2) ?hlo_ ?hx_ Try.underlying24 ?hd_ ?hi_ s0 s1 s2 s3 s4 s5 s6 s7 s8 s9 s10; (case hlo_ => rfl); (case hx_ => rfl); (case hd_ => rfl); (case hi_ => kernel_rfl)) | (go_simp; with_reducible rfl)))
     refine tak_ 4 (some 23) rfl rfl (take_ofW HT_.out HW_.out (by kernel_rfl)) hHeld ?_ (by rintro w' ⟨s0, s1, s2, s3, s4, s5, s6, s7, s8, s9, s10, s11, s12, s13, s14⟩; (first | (refine load_cells_11 (ty := 24) (x := .tmp 3) (g := B2) ?hlo_ ?hx_ Try.underlying24 ?hd_ ?hi_ s0 s1 s2 s3 s4 s5 s6 s7 s8 s9 s10; (case hlo_ => rfl); (case hx_ => rfl); (case hd_ => rfl); (case hi_ => kernel_rfl)) | (go_simp; with_reducible rfl)))
     refine tak_ 6 (some 25) rfl rfl (take_ofW HT_.out HW_.out (by kernel_rfl)) hHeld ?_ (by rintro w' ⟨s0, s1, s2, s3, s4, s5, s6, s7, s8, s9, s10, s11, s12, s13, s14⟩; (first | (refine load_cells_11 (ty := 24) (x := .tmp 3) (g := B2) ?hlo_ ?hx_ Try.underlying24 ?hd_ ?hi_ s0 s1 s2 s3 s4 s5 s6 s7 s8 s9 s10; (case hlo_ => rfl); (case hx_ => rfl); (case hd_ => rfl); (case hi_ => kernel_rfl)) | (go_simp; with_reducible rfl)))
     refine oon_ 3 (some 22) rfl rfl (one_of HT_.out (by kernel_rfl)) (fun K hK => ?_)
     refine gos_ Try.func14 (round_Fits.calls Dn Ba Bb Bc Bd Be Bf Bg Bh Bi Bj _ _ B3 _ _ l1 B8 B9 _ _ B5 _ _ B6 _ _ (Kd.C_below Bw.out HB.out) Bx.out (Kd.C_below Dv.out HB.out) Dw.out (Kd.C_below By.out HB.out) Bz.out (Kd.C_below D0.out HB.out) D1.out E1.out) ?_
     rintro e w21 ⟨rfl, hb⟩
     refine ⟨_, rfl, ?_⟩
     replace B1 := bkb_ B1 hb
     replace B0 := bkb_ B0 hb
     replace HB := bst_ HB hb
     (try clear hb)
     (try clear hb2)
     (try clear hk)
     (try clear hi)
     refine hK.out _ _ (and_11 B1.out ⟨(blk_cell B0.out 0).trans rfl, (blk_cell B0.out 1).trans rfl, (blk_cell B0.out 2).trans rfl, (blk_cell B0.out 3).trans rfl⟩) (fun hHeld => ?_)
     clear hK K
     refine nor_ 22 ?_
     refine oon_ 7 (some 26) rfl rfl (one_of HT_.out (by kernel_rfl)) (fun K hK => ?_)
     refine gos_ Try.func15 (r38_Fits.calls Dn Ba Bb Bc Bd Be Bf Bg Bh Bi Bj _ _ B3 _ _ l1 B8 B9 _ _ B5 _ _ B6 _ _ (Kd.C_below Bw.out HB.out) Bx.out (Kd.C_below Dv.out HB.out) Dw.out (Kd.C_below By.out HB.out) Bz.out (Kd.C_below D0.out HB.out) D1.out E2.out) ?_
     rintro e w22 ⟨rfl, hb⟩
     refine ⟨_, rfl, ?_⟩
     replace B1 := bkb_ B1 hb
     replace B0 := bkb_ B0 hb
     replace HB := bst_ HB hb
     (try clear hb)
     (try clear hb2)
     (try clear hk)
     (try clear hi)
     refine hK.out _ _ (and_11 B1.out ⟨(blk_cell B0.out 0).trans rfl, (blk_cell B0.out 1).trans rfl, (blk_cell B0.out 2).trans rfl, (blk_cell B0.out 3).trans rfl⟩) (fun hHeld => ?_)
     clear hK K
     refine nor_ 26 ?_
     refine pur_ 8 (some 27) rfl rfl (any_of HT_.out (by kernel_rfl)) ?_
     refine pur_ 9 (some 28) rfl rfl (any_of HT_.out (by kernel_rfl)) ?_
     refine oon_ 10 (some 29) rfl rfl (one_of HT_.out (by kernel_rfl)) (fun K hK => ?_)
     refine gos_ Try.func8 (l38_known.calls Dn  _ _ E3.out) ?_
     rintro e w23 ⟨rfl, hb⟩
     refine ⟨_, rfl, ?_⟩
     replace B1 := bkb_ B1 hb
     replace B0 := bkb_ B0 hb
     replace HB := bst_ HB hb
     (try clear hb)
     (try clear hb2)
     (try clear hk)
     (try clear hi)
     refine hK.out _ _ (and_11 B1.out ⟨(blk_cell B0.out 0).trans rfl, (blk_cell B0.out 1).trans rfl, (blk_cell B0.out 2).trans rfl, (blk_cell B0.out 3).trans rfl⟩) (fun hHeld => ?_)
     clear hK K
     refine nor_ 29 ?_
     refine pur_ 11 (some 30) rfl rfl (any_of HT_.out (by kernel_rfl)) ?_
     refine pur_ 12 (some 6) rfl rfl (any_of HT_.out (by kernel_rfl)) ?_
     refine done_ (done_of HT_.out (by kernel_rfl)) ?_
     try go_wp2
     go_ret
     exact ⟨by first | rfl | (simp [*] <;> rfl), by repeat (first | (with_reducible first | exact HB.out | apply ba_ | apply bn_ | apply bd_ | refine bs_ ?_ Bm.out | refine bs_ ?_ Bn.out) | exact HB.out)⟩
    ·rw [if_neg Dg] at H
     have Dk : (D2 == D3) = false := beq_eq_false_iff_ne.mpr Dg
     have Dl : (D2 != D3) = true := bne_iff_ne.mpr Dg
     exact absurd H (by simp)
end Go.Proofs.Ytdnccjlfongdeaa.Gn
