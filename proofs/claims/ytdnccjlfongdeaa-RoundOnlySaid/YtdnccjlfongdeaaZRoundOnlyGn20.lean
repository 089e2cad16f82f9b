import Derived.Test.YtdnccjlfongdeaaZRoundOnlyGn0
import Derived.Test.YtdnccjlfongdeaaZRoundOnlyGn2
import Derived.Test.YtdnccjlfongdeaaZRoundOnlyGn4
import Derived.Test.YtdnccjlfongdeaaZRoundOnlyGn10
import Derived.Test.YtdnccjlfongdeaaZRoundOnlyGn16
import Derived.Test.YtdnccjlfongdeaaZRoundOnlyGn17
import Derived.Test.YtdnccjlfongdeaaZRoundOnlyGn19
namespace Go.Proofs.Ytdnccjlfongdeaa.Gn
open Go.RowKit Go.Proofs.YtdnccjlfongdeaaW.PrintWords Go.Proofs.YtdnccjlfongdeaaW.PrintLast Go.Proofs.YtdnccjlfongdeaaW.PrintMore
attribute [local go_sem] max2_int min2_int max_two min_two max_three min_three max_four min_four   -- for this text's walks alone
set_option linter.unusedVariables false
set_option linter.unusedSimpArgs false
mutual
def round_Fits.j0 : Nat → Bool → Int → ByteArray → List ByteArray → List (List (S45)) → Int → Int → Int → Int → Int → Int → Int → Int → Int → Int → List Int → List Int → Option (Int)
 | 0, _, _, _, _, _, _, _, _, _, _, _, _, _, _, _, _, _ => none
 | k + 1, Bn, Be, Bd, Bf, B0, B1, B2, B3, B4, B5, B6, B7, B8, B9, Ba, Bb, Bc => if Bn = true then (some 2) else ((round_machine_members.f k B1 B2 B3 B4 B5 B6 B7 B8 B9 Ba Bb Bc Bd).bind fun Bk => (if Bk = true then ((round_machine_sizes.f k B1 B2 B3 B4 B5 B6 B7 B8 B9 Ba Bb Bc Be Bd Bf B0).bind fun Bl => (if Bl = true then ((round_machine_honest.f k B1 B2 B3 B4 B5 B6 B7 B8 B9 Ba Bb Bc).bind fun Bh => (round_Fits.l0 k Bh (Bh.length : Int) 0 Be Bd Bf B0 B1 B2 B3 B4 B5 B6 B7 B8 B9 Ba Bb Bc)) else (some 6))) else (some 7)))
def round_Fits.l0 : Nat → List Int → Int → Int → Int → ByteArray → List ByteArray → List (List (S45)) → Int → Int → Int → Int → Int → Int → Int → Int → Int → Int → List Int → List Int → Option (Int)
 | 0, _, _, _, _, _, _, _, _, _, _, _, _, _, _, _, _, _, _, _ => none
 | k + 1, Bi, Bm, Bg, Be, Bd, Bf, B0, B1, B2, B3, B4, B5, B6, B7, B8, B9, Ba, Bb, Bc => if Bg < Bm then (if 0 ≤ Bg then (if Bg < (Bi.length : Int) then (if 0 ≤ (rd Bi Bg) then (if (rd Bi Bg) < (B0.length : Int) then ((round_machine_node.f k B1 B2 B3 B4 B5 B6 B7 B8 B9 Ba Bb Bc Be Bd Bf B0 (rd_L3 B0 (rd Bi Bg))).bind fun Bj => (if Bj = 0 then (round_Fits.l0 k Bi Bm (wrap64 (Bg + 1)) Be Bd Bf B0 B1 B2 B3 B4 B5 B6 B7 B8 B9 Ba Bb Bc) else (some Bj))) else (none)) else (none)) else (none)) else (none)) else (some 0)
end
def round_Fits.f (k : Nat) (B3 B4 B5 B6 B7 B8 B9 Ba B2 Bb : Int) (B0 l1 : List Int) (B1 : Int) (Bc : ByteArray) (Bd : List ByteArray) (Be : List (List (S45))) : Option (Int) := (conf_Plain.f k B3 B4 B5 B6 B7 B8 B9 Ba B2 Bb B0).bind fun Bf => (if Bf = 0 then (if B1 < 0 then (round_Fits.j0 k (decide (B1 < 0)) B1 Bc Bd Be B3 B4 B5 B6 B7 B8 B9 Ba B2 Bb B0 l1) else (round_Fits.j0 k (decide (B1 ≥ B2)) B1 Bc Bd Be B3 B4 B5 B6 B7 B8 B9 Ba B2 Bb B0 l1)) else (some Bf))
theorem round_Fits.mono_l : ∀ k, (∀ y0 y1 y2 y3 y4 y5 y6 y7 y8 y9 B0 B1 B2 B3 B4 B5 B6, LeO (round_Fits.j0 k y0 y1 y2 y3 y4 y5 y6 y7 y8 y9 B0 B1 B2 B3 B4 B5 B6) (round_Fits.j0 (k + 1) y0 y1 y2 y3 y4 y5 y6 y7 y8 y9 B0 B1 B2 B3 B4 B5 B6)) ∧ (∀ y0 y1 y2 y3 y4 y5 y6 y7 y8 y9 B0 B1 B2 B3 B4 B5 B6 B9 Ba, LeO (round_Fits.l0 k y0 y1 y2 y3 y4 y5 y6 y7 y8 y9 B0 B1 B2 B3 B4 B5 B6 B9 Ba) (round_Fits.l0 (k + 1) y0 y1 y2 y3 y4 y5 y6 y7 y8 y9 B0 B1 B2 B3 B4 B5 B6 B9 Ba))
 | 0 => ⟨fun _ _ _ _ _ _ _ _ _ _ _ _ _ _ _ _ _ r h => by simp [round_Fits.j0] at h, fun _ _ _ _ _ _ _ _ _ _ _ _ _ _ _ _ _ _ _ r h => by simp [round_Fits.l0] at h⟩
 | k + 1 => by
  obtain ⟨B7, B8⟩ := round_Fits.mono_l k
  refine ⟨?_, ?_⟩
  ·intro y0 y1 y2 y3 y4 y5 y6 y7 y8 y9 B0 B1 B2 B3 B4 B5 B6
   unfold round_Fits.j0
   repeat' first
   | (with_reducible exact B7 _ _ _ _ _ _ _ _ _ _ _ _ _ _ _ _ _)
   | (with_reducible exact B8 _ _ _ _ _ _ _ _ _ _ _ _ _ _ _ _ _ _ _)
   | (with_reducible exact conf_Plain.mono _ _ _ _ _ _ _ _ _ _ _ _)
   | (with_reducible exact round_machine_honest.mono _ _ _ _ _ _ _ _ _ _ _ _ _)
   | (with_reducible exact round_machine_members.mono _ _ _ _ _ _ _ _ _ _ _ _ _ _)
   | (with_reducible exact round_machine_node.mono _ _ _ _ _ _ _ _ _ _ _ _ _ _ _ _ _ _)
   | (with_reducible exact round_machine_sizes.mono _ _ _ _ _ _ _ _ _ _ _ _ _ _ _ _ _)
   | (with_reducible exact LeO.refl _)
   | (with_reducible exact LeO.none _)
   | (with_reducible refine LeO.ite ?_ ?_)
   | (with_reducible refine LeO.bind ?_ (fun _ => ?_))
   | exact B7 _ _ _ _ _ _ _ _ _ _ _ _ _ _ _ _ _
   | exact B8 _ _ _ _ _ _ _ _ _ _ _ _ _ _ _ _ _ _ _
   | exact conf_Plain.mono _ _ _ _ _ _ _ _ _ _ _ _
   | exact round_machine_honest.mono _ _ _ _ _ _ _ _ _ _ _ _ _
   | exact round_machine_members.mono _ _ _ _ _ _ _ _ _ _ _ _ _ _
   | exact round_machine_node.mono _ _ _ _ _ _ _ _ _ _ _ _ _ _ _ _ _ _
   | exact round_machine_sizes.mono _ _ _ _ _ _ _ _ _ _ _ _ _ _ _ _ _
   | exact LeO.none _
   | refine LeO.ite ?_ ?_
   | refine LeO.bind ?_ (fun _ => ?_)
  ·intro y0 y1 y2 y3 y4 y5 y6 y7 y8 y9 B0 B1 B2 B3 B4 B5 B6 B9 Ba
   unfold round_Fits.l0
   repeat' first
   | (with_reducible exact B7 _ _ _ _ _ _ _ _ _ _ _ _ _ _ _ _ _)
   | (with_reducible exact B8 _ _ _ _ _ _ _ _ _ _ _ _ _ _ _ _ _ _ _)
   | (with_reducible exact conf_Plain.mono _ _ _ _ _ _ _ _ _ _ _ _)
   | (with_reducible exact round_machine_honest.mono _ _ _ _ _ _ _ _ _ _ _ _ _)
   | (with_reducible exact round_machine_members.mono _ _ _ _ _ _ _ _ _ _ _ _ _ _)
   | (with_reducible exact round_machine_node.mono _ _ _ _ _ _ _ _ _ _ _ _ _ _ _ _ _ _)
   | (with_reducible exact round_machine_sizes.mono _ _ _ _ _ _ _ _ _ _ _ _ _ _ _ _ _)
   | (with_reducible exact LeO.refl _)
   | (with_reducible exact LeO.none _)
   | (with_reducible refine LeO.ite ?_ ?_)
   | (with_reducible refine LeO.bind ?_ (fun _ => ?_))
   | exact B7 _ _ _ _ _ _ _ _ _ _ _ _ _ _ _ _ _
   | exact B8 _ _ _ _ _ _ _ _ _ _ _ _ _ _ _ _ _ _ _
   | exact conf_Plain.mono _ _ _ _ _ _ _ _ _ _ _ _
   | exact round_machine_honest.mono _ _ _ _ _ _ _ _ _ _ _ _ _
   | exact round_machine_members.mono _ _ _ _ _ _ _ _ _ _ _ _ _ _
   | exact round_machine_node.mono _ _ _ _ _ _ _ _ _ _ _ _ _ _ _ _ _ _
   | exact round_machine_sizes.mono _ _ _ _ _ _ _ _ _ _ _ _ _ _ _ _ _
   | exact LeO.none _
   | refine LeO.ite ?_ ?_
   | refine LeO.bind ?_ (fun _ => ?_)
theorem round_Fits.mono : ∀ a0 a1 a2 a3 a4 a5 a6 a7 a8 a9 B0 B1 B2 B3 B4 B5 k, LeO (round_Fits.f k a0 a1 a2 a3 a4 a5 a6 a7 a8 a9 B0 B1 B2 B3 B4 B5) (round_Fits.f (k + 1) a0 a1 a2 a3 a4 a5 a6 a7 a8 a9 B0 B1 B2 B3 B4 B5) := by
 intro a0 a1 a2 a3 a4 a5 a6 a7 a8 a9 B0 B1 B2 B3 B4 B5 k
 obtain ⟨B6, B7⟩ := round_Fits.mono_l k
 unfold round_Fits.f
 repeat' first
   | (with_reducible exact B6 _ _ _ _ _ _ _ _ _ _ _ _ _ _ _ _ _)
   | (with_reducible exact B7 _ _ _ _ _ _ _ _ _ _ _ _ _ _ _ _ _ _ _)
   | (with_reducible exact conf_Plain.mono _ _ _ _ _ _ _ _ _ _ _ _)
   | (with_reducible exact round_machine_honest.mono _ _ _ _ _ _ _ _ _ _ _ _ _)
   | (with_reducible exact round_machine_members.mono _ _ _ _ _ _ _ _ _ _ _ _ _ _)
   | (with_reducible exact round_machine_node.mono _ _ _ _ _ _ _ _ _ _ _ _ _ _ _ _ _ _)
   | (with_reducible exact round_machine_sizes.mono _ _ _ _ _ _ _ _ _ _ _ _ _ _ _ _ _)
   | (with_reducible exact LeO.refl _)
   | (with_reducible exact LeO.none _)
   | (with_reducible refine LeO.ite ?_ ?_)
   | (with_reducible refine LeO.bind ?_ (fun _ => ?_))
   | exact B6 _ _ _ _ _ _ _ _ _ _ _ _ _ _ _ _ _
   | exact B7 _ _ _ _ _ _ _ _ _ _ _ _ _ _ _ _ _ _ _
   | exact conf_Plain.mono _ _ _ _ _ _ _ _ _ _ _ _
   | exact round_machine_honest.mono _ _ _ _ _ _ _ _ _ _ _ _ _
   | exact round_machine_members.mono _ _ _ _ _ _ _ _ _ _ _ _ _ _
   | exact round_machine_node.mono _ _ _ _ _ _ _ _ _ _ _ _ _ _ _ _ _ _
   | exact round_machine_sizes.mono _ _ _ _ _ _ _ _ _ _ _ _ _ _ _ _ _
   | exact LeO.none _
   | refine LeO.ite ?_ ?_
   | refine LeO.bind ?_ (fun _ => ?_)
def round_Fits.T15 : Bool × List (List Nat × List Nat) := (true, [([], []), ([], []), ([], []), ([2], [2]), ([], []), ([3, 4], [3, 4]), ([5], [5]), ([0, 1, 6], [0, 1, 6]), ([7, 7, 0, 1, 2, 3, 4, 5, 6, 7], [7])])
def round_Fits.B15 : List Nat := [0, 0, 0, 4, 0, 28, 60, 127, 255]
theorem round_Fits.tab15 : rtab .any (opsOf Try.f14 15) = round_Fits.T15 := by kernel_rfl
theorem round_Fits.bits15 : waitsOk round_Fits.T15.2 round_Fits.B15 = true := by kernel_rfl
set_option maxHeartbeats 8000000 in
set_option maxRecDepth 100000 in
theorem round_Fits.calls (k : Nat) (Bc Bd Be Bf Bg Bh Bi Bj Bb Bk : Int) (Bt : Option Addr) (Bu : Nat) (B5 : List Int) (A1 : Option Addr) (c1 : Nat) (l1 : List Int) (Bo : Int) (Bp : ByteArray) (D5 : Option Addr) (D6 : Nat) (Bq : List ByteArray) (D9 : Option Addr) (D7 : Nat) (B8 : List (List (S45))) (r : Int) (w : World) (Dx : Kd.C (Kd.int .i64) w Bt B5.length B5) (Dy : B5.length ≤ Bu) (Fz : Kd.C (Kd.int .i64) w A1 l1.length l1) (G0 : l1.length ≤ c1) (Eb : Kd.C Kd.string w D5 Bq.length Bq) (Ec : Bq.length ≤ D6) (Ed : Kd.C (Kd.slice 45 k45) w D9 B8.length B8) (Ee : B8.length ≤ D7) (h : round_Fits.f k Bc Bd Be Bf Bg Bh Bi Bj Bb Bk B5 l1 Bo Bp Bq B8 = some r) :
  Calls Try.prog 14 #[.agg #[.int .i64 Bc, .int .i64 Bd, .int .i64 Be, .int .i64 Bf, .int .i64 Bg, .int .i64 Bh, .int .i64 Bi, .int .i64 Bj, .int .i64 Bb, .int .i64 Bk, .slice Bt B5.length Bu], .slice A1 l1.length c1, .agg #[.int .i64 Bo, .string Bp, .slice D5 Bq.length D6, .slice D9 B8.length D7]] w fun e w' => e = .returned (.int .i64 r) ∧ Below w.heap.size w w' := by
 have J8 := Try.underlying24
 have J9 := Try.underlying32
 have Br := am_ Dx
 have Bs := am_ Dy
 clear Dx Dy
 have Ef := am_ Fz
 have Eg := am_ G0
 clear Fz G0
 have Dk := am_ Eb
 have Dl := am_ Ec
 clear Eb Ec
 have Da := am_ Ed
 have Dm := am_ Ee
 clear Ed Ee
 have HB := am_ (Below.refl w.heap.size w)
 have H := h
 unfold round_Fits.f at H
 clear h
 obtain ⟨Dz, A4, H⟩ := bes_ H
 try dsimp only at H
 by_cases c5 : Dz = 0
 ·rw [if_pos c5] at H
  have Es : (Dz == 0) = true := beq_iff_eq.mpr c5
  have Et : (Dz != 0) = false := bne_eq_false_iff_eq.mpr c5
  clear c5
  have Fm := am_ H
  clear H
  go_enter Try.func14, Try.ntmps14
  go_upto_if 20 with (first | ((with_reducible refine gate_load (t := 47) (x := .tmp 8) rfl ?_); refine lrg_ 47 (.tmp 8) B3 47 (by exact B1.out) Try.underlying47 ?_) | ((with_reducible refine gate_dst (N := 3) rfl ?_); refine bxe_ 3 24 #[.int .i64 Bc, .int .i64 Bd, .int .i64 Be, .int .i64 Bf, .int .i64 Bg, .int .i64 Bh, .int .i64 Bi, .int .i64 Bj, .int .i64 Bb, .int .i64 Bk, .slice Bt B5.length Bu] ?_; intro Dn hg w7 hbox hb; have B2 := am_ (hbox); have E0 := gwk_ HB hg; have Bx := E0; replace HB := bst_ HB hb; clear hb hbox hg) | ((with_reducible refine gate_dst (N := 5) rfl ?_); refine bxe_ 5 32 #[.int .i64 Bo, .string Bp, .slice D5 Bq.length D6, .slice D9 B8.length D7] ?_; intro B6 hg w8 hbox hb; have B0 := am_ (hbox); have E1 := gwk_ HB hg; have By := E1; replace HB := bst_ HB hb; have B7 := nbk_ B2 hg; have Bm := nbs_ B7; replace B2 := bkb_ B2 hb; clear hb hbox hg; have Ja := B7.out; have Jb := Bm.out; have Eh := cells_11 B2.out; have Ei := frozen_11 B2.out) | ((with_reducible refine gate_callee (f := 18) rfl ?_); refine gom_ (some 13) Try.func18 (conf_Plain.calls k Bc Bd Be Bf Bg Bh Bi Bj Bb Bk _ _ B5 _ _ (Kd.C_below Br.out HB.out) Bs.out A4.out) ?_; rintro e w11 ⟨rfl, hb⟩; refine ⟨_, rfl, ?_⟩; replace B2 := bkb_ B2 hb; replace B0 := bkb_ B0 hb; replace HB := bst_ HB hb; (try clear hb); have Ej := cells_11 B2.out; have Ek := frozen_11 B2.out) | ((with_reducible refine gate_dst (N := 8) rfl ?_); refine bxe_ 8 47 #[.int .i64 0, .int .i64 0, .int .i64 0, .int .i64 0, .int .i64 0, .int .i64 0, .int .i64 0, .int .i64 0, .int .i64 0, .int .i64 0, .slice none 0 0, .slice none 0 0] ?_; intro B3 hg w13 hbox hb; have B1 := am_ (hbox); have Ey := gwk_ HB hg; have Bz := Ey; replace HB := bst_ HB hb; have Bv := nbk_ B2 hg; have D4 := nbs_ Bv; replace B2 := bkb_ B2 hb; have Bn := nbk_ B0 hg; have D0 := nbs_ Bn; replace B0 := bkb_ B0 hb; clear hb hbox hg) | ((with_reducible refine gate_store (t := 47) (p := 8) rfl ?_); refine row_store_event (t := 47) (p := 8) (v := ?vo_w14) ?hgd ?ho ?hn B3 #[.int .i64 Bc, .int .i64 Bd, .int .i64 Be, .int .i64 Bf, .int .i64 Bg, .int .i64 Bh, .int .i64 Bi, .int .i64 Bj, .int .i64 Bb, .int .i64 Bk, .slice Bt B5.length Bu, .slice A1 l1.length c1] ?hx ?hy 47 #[.int .i64 0, .int .i64 0, .int .i64 0, .int .i64 0, .int .i64 0, .int .i64 0, .int .i64 0, .int .i64 0, .int .i64 0, .int .i64 0, .slice none 0 0, .slice none 0 0] ?hg ?hi ?hold ?h1 ?_; (case hgd => rfl); (case ho => rfl); (case hn => rfl); (case hx => rfl); (case hy => rfl); (case hg => exact (by (with_reducible repeat (first | apply kn_ | apply kd_ | apply ka_)); exact B1.out)); (case hi => kernel_rfl); (case hold => rfl); (case h1 => (first | kernel_rfl | simp [Value.oneCell'])); intro w14 hw; have G1 : Aside0 (w14.heap[Dn]? = some (.cells #[.int .i64 Bc, .int .i64 Bd, .int .i64 Be, .int .i64 Bf, .int .i64 Bg, .int .i64 Bh, .int .i64 Bi, .int .i64 Bj, .int .i64 Bb, .int .i64 Bk, .slice Bt B5.length Bu] 24 (0, 0))) := ⟨(by rw [hw]; exact (by (with_reducible repeat (first | apply kn_ | apply kd_ | apply ka_)); refine blk_farc ?_ Bv.out; (with_reducible repeat (first | apply kn_ | apply kd_ | apply ka_)); exact B2.out))⟩; have G2 : Aside0 (w14.heap[B6]? = some (.cells #[.int .i64 Bo, .string Bp, .slice D5 Bq.length D6, .slice D9 B8.length D7] 32 (0, 0))) := ⟨(by rw [hw]; exact (by (with_reducible repeat (first | apply kn_ | apply kd_ | apply ka_)); refine blk_farc ?_ Bn.out; (with_reducible repeat (first | apply kn_ | apply kd_ | apply ka_)); exact B0.out))⟩; have G3 : Aside0 (w14.heap[B3]? = some (.cells #[.int .i64 Bc, .int .i64 Bd, .int .i64 Be, .int .i64 Bf, .int .i64 Bg, .int .i64 Bh, .int .i64 Bi, .int .i64 Bj, .int .i64 Bb, .int .i64 Bk, .slice Bt B5.length Bu, .slice A1 l1.length c1] 47 (0, 0))) := ⟨(by rw [hw]; exact (by (with_reducible repeat (first | apply kn_ | apply kd_ | apply ka_)); refine setRow_heap _ _ #[.int .i64 0, .int .i64 0, .int .i64 0, .int .i64 0, .int .i64 0, .int .i64 0, .int .i64 0, .int .i64 0, .int .i64 0, .int .i64 0, .slice none 0 0, .slice none 0 0] _ 47 (0, 0) ?_; (with_reducible repeat (first | apply kn_ | apply kd_ | apply ka_)); exact B1.out))⟩; have G4 : Aside0 (Below w.heap.size w w14) := ⟨(by rw [hw]; exact (by repeat (first | (with_reducible first | exact HB.out | refine below_setc ?_ Bz.out | apply below_alloc | apply pw_below_drewN | apply below_drew1 | refine bs_ ?_ Bx.out | refine bs_ ?_ By.out | refine bs_ ?_ Bz.out) | exact HB.out)))⟩; clear hw; clear B2; clear B0; clear B1; clear HB; have B2 := G1; have B0 := G2; have B1 := G3; have HB := G4; clear G1 G2 G3 G4; have G5 := Bn.out; have G6 := D0.out; have El := cells_4 B0.out; have Em := frozen_4 B0.out))
  (try simp only [Act.put, zs_])
  go_cut [20] (fun v20 wc => ∃ (kq : Nat) (Do : Bool), v20 = .bool Do ∧ Aside0 (round_Fits.j0 kq Do Bo Bp Bq B8 Bc Bd Be Bf Bg Bh Bi Bj Bb Bk B5 l1 = some r) ∧ Aside0 (kq ≤ k) ∧ Aside0 (wc.heap[Dn]? = some (.cells #[.int .i64 Bc, .int .i64 Bd, .int .i64 Be, .int .i64 Bf, .int .i64 Bg, .int .i64 Bh, .int .i64 Bi, .int .i64 Bj, .int .i64 Bb, .int .i64 Bk, (.slice Bt B5.length Bu)] 24 (0, 0))) ∧ Aside0 (wc.heap[B6]? = some (.cells #[.int .i64 Bo, .string Bp, (.slice D5 Bq.length D6), (.slice D9 B8.length D7)] 32 (0, 0))) ∧ Aside0 (wc.heap[B3]? = some (.cells #[.int .i64 Bc, .int .i64 Bd, .int .i64 Be, .int .i64 Bf, .int .i64 Bg, .int .i64 Bh, .int .i64 Bi, .int .i64 Bj, .int .i64 Bb, .int .i64 Bk, (.slice Bt B5.length Bu), (.slice A1 l1.length c1)] 47 (0, 0))) ∧ Aside0 (Below w.heap.size w wc))
  case first =>
   have H := Fm.out
   clear Fm
   by_cases En : Bo < 0
   ·rw [if_pos En] at H
    have D8 : decide (Bo < 0) = true := decide_eq_true En
    clear En
    (first | rw [D8] | (simp only [i64_w, i32_w]; rw [D8]) | skip)
    have H' := am_ H
    clear H
    go_wp2
    go_meet
    case rel => exact ⟨_, (decide (Bo < 0)), (by first | rfl | (simp; done) | (simp [*]; done)), H', ⟨by first | omega | exact Nat.le_refl _⟩, ⟨by (with_reducible repeat (first | apply kn_ | apply kd_ | apply ka_)); exact B2.out⟩, ⟨by (with_reducible repeat (first | apply kn_ | apply kd_ | apply ka_)); exact B0.out⟩, ⟨by (with_reducible repeat (first | apply kn_ | apply kd_ | apply ka_)); exact B1.out⟩, ⟨by repeat (first | (with_reducible first | exact HB.out | apply ba_ | apply bn_ | apply bd_ | refine bs_ ?_ Bx.out | refine bs_ ?_ By.out | refine bs_ ?_ Bz.out) | exact HB.out)⟩⟩
   ·rw [if_neg En] at H
    have D8 : decide (Bo < 0) = false := decide_eq_false En
    clear En
    (first | rw [D8] | (simp only [i64_w, i32_w]; rw [D8]) | skip)
    have H' := am_ H
    clear H
    have G7 := Bm.out
    have G8 := B7.out
    have G9 := Bn.out
    have Ga := D0.out
    have Dp : w14.cell? ⟨B6, 0, none⟩ = some (.int .i64 Bo) := (blk_cell B0.out 0).trans rfl
    have Dq : w14.cell? ⟨B6, 1, none⟩ = some (.string Bp) := (blk_cell B0.out 1).trans rfl
    have Dr : w14.cell? ⟨B6, 2, none⟩ = some (.slice D5 Bq.length D6) := (blk_cell B0.out 2).trans rfl
    have Ds : w14.cell? ⟨B6, 3, none⟩ = some (.slice D9 B8.length D7) := (blk_cell B0.out 3).trans rfl
    have Dt := blk_frozen B0.out 0
    have Du := blk_frozen B0.out 1
    have Dv := blk_frozen B0.out 2
    have Dw := blk_frozen B0.out 3
    have Gb := Bv.out
    have Gc := D4.out
    have Eo := cells_11 B2.out
    have Ep := frozen_11 B2.out
    go_wp2
    go_meet
    case rel => exact ⟨_, (decide (Bo ≥ Bb)), (by first | rfl | (simp; done) | (simp [*]; done)), H', ⟨by first | omega | exact Nat.le_refl _⟩, ⟨by (with_reducible repeat (first | apply kn_ | apply kd_ | apply ka_)); exact B2.out⟩, ⟨by (with_reducible repeat (first | apply kn_ | apply kd_ | apply ka_)); exact B0.out⟩, ⟨by (with_reducible repeat (first | apply kn_ | apply kd_ | apply ka_)); exact B1.out⟩, ⟨by repeat (first | (with_reducible first | exact HB.out | apply ba_ | apply bn_ | apply bd_ | refine bs_ ?_ Bx.out | refine bs_ ?_ By.out | refine bs_ ?_ Bz.out) | exact HB.out)⟩⟩
  case rest =>
   clear Fm
   try clear c1
   try clear c2
   try clear p2
   try clear c5
   try clear Es
   try clear Et
   try clear c9
   try clear c14
   try clear c15
   try clear En
   try clear D8
   try clear c18
   try clear c19
   try clear c21
   try clear Eh
   try clear Ej
   try clear El
   try clear Dp Dq Dr Ds
   try clear Eo
   try clear Ei
   try clear Ek
   try clear Em
   try clear Dt Du Dv Dw
   try clear Ep
   obtain ⟨kq, Do, rfl, HA, Gd, B2, B0, B1, HB⟩ := hcut
   cases kq with
   | zero => exact absurd HA.out (by simp [round_Fits.j0])
   | succ Eq =>
    have H := HA.out
    clear HA
    simp only [round_Fits.j0] at H
    by_cases Ez : Do = true
    ·subst Ez
     rw [if_pos rfl] at H
     obtain rfl := Option.some.inj H
     go_wp2
     go_ret
     exact ⟨by first | rfl | (simp [*] <;> rfl), by repeat (first | (with_reducible first | exact HB.out | apply ba_ | apply bn_ | apply bd_ | refine bs_ ?_ Bx.out | refine bs_ ?_ By.out | refine bs_ ?_ Bz.out) | exact HB.out)⟩
    ·replace Ez := Bool.eq_false_iff.mpr Ez
     subst Ez
     rw [if_neg (show ¬ (false = true) by decide)] at H
     obtain ⟨Fn, Fo, H⟩ := bes_ H
     try dsimp only at H
     by_cases F0 : Fn = true
     subst F0
     rw [if_pos rfl] at H
     obtain ⟨Fp, Ge, H⟩ := bes_ H
     try dsimp only at H
     by_cases F1 : Fp = true
     ·subst F1
      rw [if_pos rfl] at H
      obtain ⟨Ba, Jc, H⟩ := bes_ H
      try dsimp only at H
      have H' := am_ H
      clear H
      have Gf := D4.out
      have Gg := Bv.out
      have Gh := D0.out
      have Gi := Bn.out
      have F2 := cells_12 B1.out
      have F3 := frozen_12 B1.out
      have Gj := Bm.out
      have Gk := B7.out
      have E2 : wc.cell? ⟨B6, 0, none⟩ = some (.int .i64 Bo) := (blk_cell B0.out 0).trans rfl
      have E3 : wc.cell? ⟨B6, 1, none⟩ = some (.string Bp) := (blk_cell B0.out 1).trans rfl
      have E4 : wc.cell? ⟨B6, 2, none⟩ = some (.slice D5 Bq.length D6) := (blk_cell B0.out 2).trans rfl
      have E5 : wc.cell? ⟨B6, 3, none⟩ = some (.slice D9 B8.length D7) := (blk_cell B0.out 3).trans rfl
      have E6 := blk_frozen B0.out 0
      have E7 := blk_frozen B0.out 1
      have E8 := blk_frozen B0.out 2
      have E9 := blk_frozen B0.out 3
      go_wp2_with (first | ((with_reducible refine gate_load (t := 47) (x := .tmp 8) rfl ?_); refine lrg_ 47 (.tmp 8) B3 47 (by exact B1.out) Try.underlying47 ?_) | ((with_reducible refine gate_callee (f := 35) rfl ?_); refine gom_ (some 33) Try.func35 (round_machine_members.calls Eq Bc Bd Be Bf Bg Bh Bi Bj Bb Bk _ _ B5 _ _ l1 Bp _ _ (Kd.C_below Br.out HB.out) Bs.out (Kd.C_below Ef.out HB.out) Eg.out Fo.out) ?_; rintro e w34 ⟨rfl, hb⟩; refine ⟨_, rfl, ?_⟩; replace B2 := bkb_ B2 hb; replace B0 := bkb_ B0 hb; replace B1 := bkb_ B1 hb; replace HB := bst_ HB hb; (try clear hb); have Fq := cells_12 B1.out; have Fr := frozen_12 B1.out; have F4 := cells_4 B0.out; have F5 := frozen_4 B0.out) | ((with_reducible refine gate_callee (f := 36) rfl ?_); refine gom_ (some 38) Try.func36 (round_machine_sizes.calls Eq Bc Bd Be Bf Bg Bh Bi Bj Bb Bk _ _ B5 _ _ l1 Bo Bp _ _ Bq _ _ B8 _ _ (Kd.C_below Br.out HB.out) Bs.out (Kd.C_below Ef.out HB.out) Eg.out (Kd.C_below Dk.out HB.out) Dl.out (Kd.C_below Da.out HB.out) Dm.out Ge.out) ?_; rintro e w37 ⟨rfl, hb⟩; refine ⟨_, rfl, ?_⟩; replace B2 := bkb_ B2 hb; replace B0 := bkb_ B0 hb; replace B1 := bkb_ B1 hb; replace HB := bst_ HB hb; (try clear hb); have Fs := cells_12 B1.out; have Ft := frozen_12 B1.out) | ((with_reducible refine gate_callee (f := 21) rfl ?_); refine gom_ (some 41) Try.func21 (round_machine_honest.calls Eq Bc Bd Be Bf Bg Bh Bi Bj Bb Bk _ _ B5 _ _ l1 _ _ (Kd.C_below Br.out HB.out) Bs.out (Kd.C_below Ef.out HB.out) Eg.out Jc.out) ?_; rintro e w39 ⟨v408, rfl, Gl, hb⟩; refine ⟨_, rfl, ?_⟩; have Er := am_ (Kd.R_lower Gl (below_size HB.out)); replace B2 := bkb_ B2 hb; replace B0 := bkb_ B0 hb; replace B1 := bkb_ B1 hb; replace HB := bst_ HB hb; (try clear hb); (try clear Gl); obtain ⟨Fu, Fv, Fw⟩ := Kd.R_slice Er.out; subst Fw))
      go_loopg [43] Eq (fun kq v43 w' => ∃ (B4 : Int), v43 = .int .i64 B4 ∧ Aside0 (round_Fits.l0 kq Ba (Ba.length : Int) B4 Bo Bp Bq B8 Bc Bd Be Bf Bg Bh Bi Bj Bb Bk B5 l1 = some r) ∧ Aside0 (kq ≤ Eq) ∧ Aside0 (Kd.R (Kd.int .i64) 3 w' w.heap.size (fun _ => True) (.slice Fu Ba.length Fv) Ba) ∧ Aside0 (w'.heap[Dn]? = some (.cells #[.int .i64 Bc, .int .i64 Bd, .int .i64 Be, .int .i64 Bf, .int .i64 Bg, .int .i64 Bh, .int .i64 Bi, .int .i64 Bj, .int .i64 Bb, .int .i64 Bk, (.slice Bt B5.length Bu)] 24 (0, 0))) ∧ Aside0 (w'.heap[B6]? = some (.cells #[.int .i64 Bo, .string Bp, (.slice D5 Bq.length D6), (.slice D9 B8.length D7)] 32 (0, 0))) ∧ Aside0 (w'.heap[B3]? = some (.cells #[.int .i64 Bc, .int .i64 Bd, .int .i64 Be, .int .i64 Bf, .int .i64 Bg, .int .i64 Bh, .int .i64 Bi, .int .i64 Bj, .int .i64 Bb, .int .i64 Bk, (.slice Bt B5.length Bu), (.slice A1 l1.length c1)] 47 (0, 0))) ∧ Aside0 (Below w.heap.size w w'))
      case atStart => exact ⟨(0), (by first | rfl | (simp; done) | (simp [*]; done)), H', ⟨Nat.le_refl _⟩, ⟨by (with_reducible repeat (first | apply Kd.R_alloc | apply Kd.R_drewN | apply Kd.R_drew)); exact Er.out⟩, ⟨by (with_reducible repeat (first | apply kn_ | apply kd_ | apply ka_)); exact B2.out⟩, ⟨by (with_reducible repeat (first | apply kn_ | apply kd_ | apply ka_)); exact B0.out⟩, ⟨by (with_reducible repeat (first | apply kn_ | apply kd_ | apply ka_)); exact B1.out⟩, ⟨by repeat (first | (with_reducible first | exact HB.out | apply ba_ | apply bn_ | apply bd_ | refine bs_ ?_ Bx.out | refine bs_ ?_ By.out | refine bs_ ?_ Bz.out) | exact HB.out)⟩⟩
      case round =>
       clear H'
       try clear c1
       try clear c2
       try clear p2
       try clear c3
       try clear c5
       try clear Es
       try clear Et
       try clear c9
       try clear c14
       try clear c15
       try clear En
       try clear D8
       try clear c18
       try clear c19
       try clear c21
       try clear Ez
       try clear F0
       try clear F1
       try clear c29
       try clear c30
       try clear c32
       try clear c35
       try clear c36
       try clear Eh
       try clear Ej
       try clear El
       try clear Dp Dq Dr Ds
       try clear Eo
       try clear F2
       try clear E2 E3 E4 E5
       try clear hcz35_0 hcz35_1 hcz35_2 hcz35_3 hcz35_4 hcz35_5 hcz35_6 hcz35_7 hcz35_8 hcz35_9 hcz35_10 hcz35_11
       try clear F4
       try clear hcz38_0 hcz38_1 hcz38_2 hcz38_3 hcz38_4 hcz38_5 hcz38_6 hcz38_7 hcz38_8 hcz38_9 hcz38_10 hcz38_11
       try clear Ei
       try clear Ek
       try clear Em
       try clear Dt Du Dv Dw
       try clear Ep
       try clear F3
       try clear E6 E7 E8 E9
       try clear hfz35_0 hfz35_1 hfz35_2 hfz35_3 hfz35_4 hfz35_5 hfz35_6 hfz35_7 hfz35_8 hfz35_9 hfz35_10 hfz35_11
       try clear F5
       try clear hfz38_0 hfz38_1 hfz38_2 hfz38_3 hfz38_4 hfz38_5 hfz38_6 hfz38_7 hfz38_8 hfz38_9 hfz38_10 hfz38_11
       try clear p2
       obtain ⟨B4, rfl, HA, Gm, Bw, B2, B0, B1, HB⟩ := hrel
       cases gk with
       | zero => exact absurd HA.out (by simp [round_Fits.l0])
       | succ k2 =>
        have H := HA.out
        clear HA
        simp only [round_Fits.l0] at H
        by_cases Ex : B4 < (Ba.length : Int)
        ·rw [if_pos Ex] at H
         have F6 : decide (B4 < (Ba.length : Int)) = true := decide_eq_true Ex
         clear Ex
         by_cases Fa : 0 ≤ B4
         ·rw [if_pos Fa] at H
          have Gp : decide (0 ≤ B4) = true := decide_eq_true Fa
          clear Fa
          by_cases Fb : B4 < (Ba.length : Int)
          ·rw [if_pos Fb] at H
           have Gq : decide (B4 < (Ba.length : Int)) = true := decide_eq_true Fb
           clear Fb
           by_cases Fc : 0 ≤ (rd Ba B4)
           ·rw [if_pos Fc] at H
            have Gr : decide (0 ≤ (rd Ba B4)) = true := decide_eq_true Fc
            clear Fc
            by_cases Fd : (rd Ba B4) < (B8.length : Int)
            ·rw [if_pos Fd] at H
             have Gs : decide ((rd Ba B4) < (B8.length : Int)) = true := decide_eq_true Fd
             clear Fd
             obtain ⟨Dd, Gt, H⟩ := bes_ H
             try dsimp only at H
             by_cases Eu : Dd = 0
             ·rw [if_pos Eu] at H
              have F7 : (Dd == 0) = true := beq_iff_eq.mpr Eu
              have F8 : (Dd != 0) = false := bne_eq_false_iff_eq.mpr Eu
              clear Eu
              have H' := am_ H
              clear H
              have De : 0 ≤ (B4 : Int) := of_decide_eq_true (by first | (with_reducible assumption) | assumption)
              have Df : B4 < (Ba.length : Int) := of_decide_eq_true (by first | (with_reducible assumption) | assumption)
              obtain ⟨F9, Ev, Ea⟩ := Kd.at_int (Kd.R_reads' Bw.out).2.2 B4 De Df
              cases Ev
              replace De := eq_true De
              replace Df := eq_true Df
              try go_wp2
              replace Bw := am_ (Kd.R_drew Bw.out)
              replace B2 := am_ (blk_drew B2.out)
              replace B0 := am_ (blk_drew B0.out)
              replace B1 := am_ (blk_drew B1.out)
              replace HB := am_ (below_drew1 HB.out)
              have Dg : 0 ≤ ((rd Ba B4) : Int) := of_decide_eq_true (by first | (with_reducible assumption) | assumption)
              have Dh : (rd Ba B4) < (B8.length : Int) := of_decide_eq_true (by first | (with_reducible assumption) | assumption)
              obtain ⟨Dc, Di, Dj, Ew, B9, D1, D2⟩ := at_L3 Da.out (rd Ba B4) Dg Dh
              have Bl := B9
              cases Ew
              replace B9 := (HB.out.cell (World.block_lt_of_cell? w _ B9)).trans B9
              have D3 := am_ D2
              have Db := am_ D1
              clear D2 D1
              replace Dg := eq_true Dg
              replace Dh := eq_true Dh
              refine start_ (n := 9) (S := fun w' => ce_ w' B3 0 (.int .i64 Bc) ∧ ce_ w' B3 1 (.int .i64 Bd) ∧ ce_ w' B3 2 (.int .i64 Be) ∧ ce_ w' B3 3 (.int .i64 Bf) ∧ ce_ w' B3 4 (.int .i64 Bg) ∧ ce_ w' B3 5 (.int .i64 Bh) ∧ ce_ w' B3 6 (.int .i64 Bi) ∧ ce_ w' B3 7 (.int .i64 Bj) ∧ ce_ w' B3 8 (.int .i64 Bb) ∧ ce_ w' B3 9 (.int .i64 Bk) ∧ ce_ w' B3 10 (.slice Bt B5.length Bu) ∧ ce_ w' B3 11 (.slice A1 l1.length c1) ∧ ce_ w' B6 0 (.int .i64 Bo) ∧ ce_ w' B6 1 (.string Bp) ∧ ce_ w' B6 2 (.slice D5 Bq.length D6) ∧ ce_ w' B6 3 (.slice (some Dc) B8.length D7) ∧ w'.cell? (Dc.add ((rd Ba B4)).toNat) = some (.slice Di (rd_L3 B8 (rd Ba B4)).length Dj)) (ds := []) #[false, false, false, false, false, false, false, false, false] (by kernel_rfl) rfl rfl ⟨(blk_cell B1.out 0).trans rfl, (blk_cell B1.out 1).trans rfl, (blk_cell B1.out 2).trans rfl, (blk_cell B1.out 3).trans rfl, (blk_cell B1.out 4).trans rfl, (blk_cell B1.out 5).trans rfl, (blk_cell B1.out 6).trans rfl, (blk_cell B1.out 7).trans rfl, (blk_cell B1.out 8).trans rfl, (blk_cell B1.out 9).trans rfl, (blk_cell B1.out 10).trans rfl, (blk_cell B1.out 11).trans rfl, (blk_cell B0.out 0).trans rfl, (blk_cell B0.out 1).trans rfl, (blk_cell B0.out 2).trans rfl, (blk_cell B0.out 3).trans rfl, ((HB.out.cell (World.block_lt_of_cell? w _ Bl)).trans Bl)⟩ (fun hHeld => ?_); refine with_tabW round_Fits.tab15 round_Fits.bits15 (fun HT_ HW_ => ?_)
              generalize wr.drew = w48 at Bw B2 B0 B1 HB D3 B9 hHeld ⊢
              refine pur_ 2 (some 49) rfl rfl (any_of HT_.out (by kernel_rfl)) ?_
              refine pur_ 4 (some 51) rfl rfl (any_of HT_.out (by kernel_rfl)) ?_
              refine tak_ 0 (some 47) rfl rfl (take_ofW HT_.out HW_.out (by kernel_rfl)) hHeld ?_ (by rintro w' ⟨s0, s1, s2, s3, s4, s5, s6, s7, s8, s9, s10, s11, s12, s13, s14, s15, s16⟩; (first | (refine load_cells_12 (ty := 47) (x := .tmp 8) (g := B3) ?hlo_ ?hx_ Try.underlying47 ?hd_ ?hi_ s0 s1 s2 s3 s4 s5 s6 s7 s8 s9 s10 s11; (case hlo_ => rfl); (case hx_ => rfl); (case hd_ => rfl); (case hi_ => kernel_rfl)) | (go_simp; with_reducible rfl)))
              refine tak_ 1 (some 48) rfl rfl (take_ofW HT_.out HW_.out (by kernel_rfl)) hHeld ?_ (by rintro w' ⟨s0, s1, s2, s3, s4, s5, s6, s7, s8, s9, s10, s11, s12, s13, s14, s15, s16⟩; (first | (refine load_cells_12 (ty := 47) (x := .tmp 8) (g := B3) ?hlo_ ?hx_ Try.underlying47 ?hd_ ?hi_ s0 s1 s2 s3 s4 s5 s6 s7 s8 s9 s10 s11; (case hlo_ => rfl); (case hx_ => rfl); (case hd_ => rfl); (case hi_ => kernel_rfl)) | (go_simp; with_reducible rfl)))
              refine tak_ 3 (some 50) rfl rfl (take_ofW HT_.out HW_.out (by kernel_rfl)) hHeld ?_ (by rintro w' ⟨s0, s1, s2, s3, s4, s5, s6, s7, s8, s9, s10, s11, s12, s13, s14, s15, s16⟩; (first | (refine load_cells_12 (ty := 47) (x := .tmp 8) (g := B3) ?hlo_ ?hx_ Try.underlying47 ?hd_ ?hi_ s0 s1 s2 s3 s4 s5 s6 s7 s8 s9 s10 s11; (case hlo_ => rfl); (case hx_ => rfl); (case hd_ => rfl); (case hi_ => kernel_rfl)) | (go_simp; with_reducible rfl)))
              refine pur_ 5 (some 52) rfl rfl (any_of HT_.out (by kernel_rfl)) ?_
              refine tak_ 6 (some 53) rfl rfl (take_ofW HT_.out HW_.out (by kernel_rfl)) hHeld ?_ (by rintro w' ⟨s0, s1, s2, s3, s4, s5, s6, s7, s8, s9, s10, s11, s12, s13, s14, s15, s16⟩; (first | (refine load_cells_12 (ty := 47) (x := .tmp 8) (g := B3) ?hlo_ ?hx_ Try.underlying47 ?hd_ ?hi_ s0 s1 s2 s3 s4 s5 s6 s7 s8 s9 s10 s11; (case hlo_ => rfl); (case hx_ => rfl); (case hd_ => rfl); (case hi_ => kernel_rfl)) | (go_simp; with_reducible rfl)))
              refine oon_ 7 (some 54) rfl rfl (one_of HT_.out (by kernel_rfl)) (fun K hK => ?_)
              refine gos_ Try.func37 (round_machine_node.calls k2 Bc Bd Be Bf Bg Bh Bi Bj Bb Bk _ _ B5 _ _ l1 Bo Bp _ _ Bq _ _ B8 _ _ (rd_L3 B8 (rd Ba B4)) Dd _ (Kd.C_below Br.out HB.out) Bs.out (Kd.C_below Ef.out HB.out) Eg.out (Kd.C_below Dk.out HB.out) Dl.out (Kd.C_below Da.out HB.out) Dm.out ?side9 ?side10 Gt.out) ?_
              (case side9 => exact (Kd.C_below D3.out HB.out))
              (case side10 => exact Db.out)
              rintro e w49 ⟨rfl, hb⟩
              refine ⟨_, rfl, ?_⟩
              replace Bw := am_ (Kd.R_below Bw.out hb)
              replace B2 := bkb_ B2 hb
              replace B0 := bkb_ B0 hb
              replace B1 := bkb_ B1 hb
              replace HB := bst_ HB hb
              (try clear hb)
              (try clear hb2)
              (try clear hk)
              (try clear hi)
              refine hK.out _ _ (and_12 B1.out ⟨(blk_cell B0.out 0).trans rfl, (blk_cell B0.out 1).trans rfl, (blk_cell B0.out 2).trans rfl, (blk_cell B0.out 3).trans rfl, ((HB.out.cell (World.block_lt_of_cell? w _ Bl)).trans Bl)⟩) (fun hHeld => ?_)
              clear hK K
              refine nor_ 54 ?_
              refine pur_ 8 (some 11) rfl rfl (any_of HT_.out (by kernel_rfl)) ?_
              refine done_ (done_of HT_.out (by kernel_rfl)) ?_
              try go_wp2
              go_roundg k2
              case measure => have := Gd.out; have := Gm.out; omega
              case rel => exact ⟨(wrap64 (B4 + 1)), (by first | rfl | (simp; done) | (simp [*]; done)), H', ⟨by have := Gd.out; have := Gm.out; omega⟩, ⟨by (with_reducible repeat (first | apply Kd.R_alloc | apply Kd.R_drewN | apply Kd.R_drew)); exact Bw.out⟩, ⟨by (with_reducible repeat (first | apply kn_ | apply kd_ | apply ka_)); exact B2.out⟩, ⟨by (with_reducible repeat (first | apply kn_ | apply kd_ | apply ka_)); exact B0.out⟩, ⟨by (with_reducible repeat (first | apply kn_ | apply kd_ | apply ka_)); exact B1.out⟩, ⟨by repeat (first | (with_reducible first | exact HB.out | apply ba_ | apply bn_ | apply bd_ | refine bs_ ?_ Bx.out | refine bs_ ?_ By.out | refine bs_ ?_ Bz.out) | exact HB.out)⟩⟩
             ·rw [if_neg Eu] at H
              have F7 : (Dd == 0) = false := beq_eq_false_iff_ne.mpr Eu
              have F8 : (Dd != 0) = true := bne_iff_ne.mpr Eu
              obtain rfl := Option.some.inj H
              have De : 0 ≤ (B4 : Int) := of_decide_eq_true (by first | (with_reducible assumption) | assumption)
              have Df : B4 < (Ba.length : Int) := of_decide_eq_true (by first | (with_reducible assumption) | assumption)
              obtain ⟨F9, Ev, Ea⟩ := Kd.at_int (Kd.R_reads' Bw.out).2.2 B4 De Df
              cases Ev
              replace De := eq_true De
              replace Df := eq_true Df
              try go_wp2
              replace Bw := am_ (Kd.R_drew Bw.out)
              replace B2 := am_ (blk_drew B2.out)
              replace B0 := am_ (blk_drew B0.out)
              replace B1 := am_ (blk_drew B1.out)
              replace HB := am_ (below_drew1 HB.out)
              have Dg : 0 ≤ ((rd Ba B4) : Int) := of_decide_eq_true (by first | (with_reducible assumption) | assumption)
              have Dh : (rd Ba B4) < (B8.length : Int) := of_decide_eq_true (by first | (with_reducible assumption) | assumption)
              obtain ⟨Dc, Di, Dj, Ew, B9, D1, D2⟩ := at_L3 Da.out (rd Ba B4) Dg Dh
              have Bl := B9
              cases Ew
              replace B9 := (HB.out.cell (World.block_lt_of_cell? w _ B9)).trans B9
              have D3 := am_ D2
              have Db := am_ D1
              clear D2 D1
              replace Dg := eq_true Dg
              replace Dh := eq_true Dh
              refine start_ (n := 9) (S := fun w' => ce_ w' B3 0 (.int .i64 Bc) ∧ ce_ w' B3 1 (.int .i64 Bd) ∧ ce_ w' B3 2 (.int .i64 Be) ∧ ce_ w' B3 3 (.int .i64 Bf) ∧ ce_ w' B3 4 (.int .i64 Bg) ∧ ce_ w' B3 5 (.int .i64 Bh) ∧ ce_ w' B3 6 (.int .i64 Bi) ∧ ce_ w' B3 7 (.int .i64 Bj) ∧ ce_ w' B3 8 (.int .i64 Bb) ∧ ce_ w' B3 9 (.int .i64 Bk) ∧ ce_ w' B3 10 (.slice Bt B5.length Bu) ∧ ce_ w' B3 11 (.slice A1 l1.length c1) ∧ ce_ w' B6 0 (.int .i64 Bo) ∧ ce_ w' B6 1 (.string Bp) ∧ ce_ w' B6 2 (.slice D5 Bq.length D6) ∧ ce_ w' B6 3 (.slice (some Dc) B8.length D7) ∧ w'.cell? (Dc.add ((rd Ba B4)).toNat) = some (.slice Di (rd_L3 B8 (rd Ba B4)).length Dj)) (ds := []) #[false, false, false, false, false, false, false, false, false] (by kernel_rfl) rfl rfl ⟨(blk_cell B1.out 0).trans rfl, (blk_cell B1.out 1).trans rfl, (blk_cell B1.out 2).trans rfl, (blk_cell B1.out 3).trans rfl, (blk_cell B1.out 4).trans rfl, (blk_cell B1.out 5).trans rfl, (blk_cell B1.out 6).trans rfl, (blk_cell B1.out 7).trans rfl, (blk_cell B1.out 8).trans rfl, (blk_cell B1.out 9).trans rfl, (blk_cell B1.out 10).trans rfl, (blk_cell B1.out 11).trans rfl, (blk_cell B0.out 0).trans rfl, (blk_cell B0.out 1).trans rfl, (blk_cell B0.out 2).trans rfl, (blk_cell B0.out 3).trans rfl, ((HB.out.cell (World.block_lt_of_cell? w _ Bl)).trans Bl)⟩ (fun hHeld => ?_); refine with_tabW round_Fits.tab15 round_Fits.bits15 (fun HT_ HW_ => ?_)
              generalize wr.drew = w50 at Bw B2 B0 B1 HB D3 B9 hHeld ⊢
              refine pur_ 2 (some 49) rfl rfl (any_of HT_.out (by kernel_rfl)) ?_
              refine pur_ 4 (some 51) rfl rfl (any_of HT_.out (by kernel_rfl)) ?_
              refine tak_ 0 (some 47) rfl rfl (take_ofW HT_.out HW_.out (by kernel_rfl)) hHeld ?_ (by rintro w' ⟨s0, s1, s2, s3, s4, s5, s6, s7, s8, s9, s10, s11, s12, s13, s14, s15, s16⟩; (first | (refine load_cells_12 (ty := 47) (x := .tmp 8) (g := B3) ?hlo_ ?hx_ Try.underlying47 ?hd_ ?hi_ s0 s1 s2 s3 s4 s5 s6 s7 s8 s9 s10 s11; (case hlo_ => rfl); (case hx_ => rfl); (case hd_ => rfl); (case hi_ => kernel_rfl)) | (go_simp; with_reducible rfl)))
              refine tak_ 1 (some 48) rfl rfl (take_ofW HT_.out HW_.out (by kernel_rfl)) hHeld ?_ (by rintro w' ⟨s0, s1, s2, s3, s4, s5, s6, s7, s8, s9, s10, s11, s12, s13, s14, s15, s16⟩; (first | (refine load_cells_12 (ty := 47) (x := .tmp 8) (g := B3) ?hlo_ ?hx_ Try.underlying47 ?hd_ ?hi_ s0 s1 s2 s3 s4 s5 s6 s7 s8 s9 s10 s11; (case hlo_ => rfl); (case hx_ => rfl); (case hd_ => rfl); (case hi_ => kernel_rfl)) | (go_simp; with_reducible rfl)))
              refine tak_ 3 (some 50) rfl rfl (take_ofW HT_.out HW_.out (by kernel_rfl)) hHeld ?_ (by rintro w' ⟨s0, s1, s2, s3, s4, s5, s6, s7, s8, s9, s10, s11, s12, s13, s14, s15, s16⟩; (first | (refine load_cells_12 (ty := 47) (x := .tmp 8) (g := B3) ?hlo_ ?hx_ Try.underlying47 ?hd_ ?hi_ s0 s1 s2 s3 s4 s5 s6 s7 s8 s9 s10 s11; (case hlo_ => rfl); (case hx_ => rfl); (case hd_ => rfl); (case hi_ => kernel_rfl)) | (go_simp; with_reducible rfl)))
              refine pur_ 5 (some 52) rfl rfl (any_of HT_.out (by kernel_rfl)) ?_
              refine tak_ 6 (some 53) rfl rfl (take_ofW HT_.out HW_.out (by kernel_rfl)) hHeld ?_ (by rintro w' ⟨s0, s1, s2, s3, s4, s5, s6, s7, s8, s9, s10, s11, s12, s13, s14, s15, s16⟩; (first | (refine load_cells_12 (ty := 47) (x := .tmp 8) (g := B3) ?hlo_ ?hx_ Try.underlying47 ?hd_ ?hi_ s0 s1 s2 s3 s4 s5 s6 s7 s8 s9 s10 s11; (case hlo_ => rfl); (case hx_ => rfl); (case hd_ => rfl); (case hi_ => kernel_rfl)) | (go_simp; with_reducible rfl)))
              refine oon_ 7 (some 54) rfl rfl (one_of HT_.out (by kernel_rfl)) (fun K hK => ?_)
              refine gos_ Try.func37 (round_machine_node.calls k2 Bc Bd Be Bf Bg Bh Bi Bj Bb Bk _ _ B5 _ _ l1 Bo Bp _ _ Bq _ _ B8 _ _ (rd_L3 B8 (rd Ba B4)) Dd _ (Kd.C_below Br.out HB.out) Bs.out (Kd.C_below Ef.out HB.out) Eg.out (Kd.C_below Dk.out HB.out) Dl.out (Kd.C_below Da.out HB.out) Dm.out ?side9 ?side10 Gt.out) ?_
              (case side9 => exact (Kd.C_below D3.out HB.out))
              (case side10 => exact Db.out)
              rintro e w51 ⟨rfl, hb⟩
              refine ⟨_, rfl, ?_⟩
              replace Bw := am_ (Kd.R_below Bw.out hb)
              replace B2 := bkb_ B2 hb
              replace B0 := bkb_ B0 hb
              replace B1 := bkb_ B1 hb
              replace HB := bst_ HB hb
              (try clear hb)
              (try clear hb2)
              (try clear hk)
              (try clear hi)
              refine hK.out _ _ (and_12 B1.out ⟨(blk_cell B0.out 0).trans rfl, (blk_cell B0.out 1).trans rfl, (blk_cell B0.out 2).trans rfl, (blk_cell B0.out 3).trans rfl, ((HB.out.cell (World.block_lt_of_cell? w _ Bl)).trans Bl)⟩) (fun hHeld => ?_)
              clear hK K
              refine nor_ 54 ?_
              refine pur_ 8 (some 11) rfl rfl (any_of HT_.out (by kernel_rfl)) ?_
              refine done_ (done_of HT_.out (by kernel_rfl)) ?_
              try go_wp2
              go_ret
              exact ⟨by first | rfl | (simp [*] <;> rfl), by repeat (first | (with_reducible first | exact HB.out | apply ba_ | apply bn_ | apply bd_ | refine bs_ ?_ Bx.out | refine bs_ ?_ By.out | refine bs_ ?_ Bz.out) | exact HB.out)⟩
            ·rw [if_neg Fd] at H
             exact absurd H (by simp)
           ·rw [if_neg Fc] at H
            exact absurd H (by simp)
          ·rw [if_neg Fb] at H
           exact absurd H (by simp)
         ·rw [if_neg Fa] at H
          exact absurd H (by simp)
        ·rw [if_neg Ex] at H
         have F6 : decide (B4 < (Ba.length : Int)) = false := decide_eq_false Ex
         clear Ex
         obtain rfl := Option.some.inj H
         go_wp2
         go_ret
         exact ⟨by first | rfl | (simp [*] <;> rfl), by repeat (first | (with_reducible first | exact HB.out | apply ba_ | apply bn_ | apply bd_ | refine bs_ ?_ Bx.out | refine bs_ ?_ By.out | refine bs_ ?_ Bz.out) | exact HB.out)⟩
     replace F1 := Bool.eq_false_iff.mpr F1
     subst F1
     rw [if_neg (show ¬ (false = true) by decide)] at H
     obtain rfl := Option.some.inj H
     rotate_left
     replace F0 := Bool.eq_false_iff.mpr F0
     subst F0
     rw [if_neg (show ¬ (false = true) by decide)] at H
     obtain rfl := Option.some.inj H
     rotate_left
     all_goals
      have Gu := D4.out
      have Gv := Bv.out
      have Gw := D0.out
      have Gx := Bn.out
      have Gy := cells_12 B1.out
      have Gz := frozen_12 B1.out
      have J0 := Bm.out
      have J1 := B7.out
      have Fe : wc.cell? ⟨B6, 0, none⟩ = some (.int .i64 Bo) := (blk_cell B0.out 0).trans rfl
      have Ff : wc.cell? ⟨B6, 1, none⟩ = some (.string Bp) := (blk_cell B0.out 1).trans rfl
      have Fg : wc.cell? ⟨B6, 2, none⟩ = some (.slice D5 Bq.length D6) := (blk_cell B0.out 2).trans rfl
      have Fh : wc.cell? ⟨B6, 3, none⟩ = some (.slice D9 B8.length D7) := (blk_cell B0.out 3).trans rfl
      have Fi := blk_frozen B0.out 0
      have Fj := blk_frozen B0.out 1
      have Fk := blk_frozen B0.out 2
      have Fl := blk_frozen B0.out 3
     ·go_wp2_with (first | ((with_reducible refine gate_load (t := 47) (x := .tmp 8) rfl ?_); refine lrg_ 47 (.tmp 8) B3 47 (by exact B1.out) Try.underlying47 ?_) | ((with_reducible refine gate_callee (f := 35) rfl ?_); refine gom_ (some 33) Try.func35 (round_machine_members.calls Eq Bc Bd Be Bf Bg Bh Bi Bj Bb Bk _ _ B5 _ _ l1 Bp _ _ (Kd.C_below Br.out HB.out) Bs.out (Kd.C_below Ef.out HB.out) Eg.out Fo.out) ?_; rintro e w57 ⟨rfl, hb⟩; refine ⟨_, rfl, ?_⟩; replace B2 := bkb_ B2 hb; replace B0 := bkb_ B0 hb; replace B1 := bkb_ B1 hb; replace HB := bst_ HB hb; (try clear hb); have Fx := cells_12 B1.out; have Fy := frozen_12 B1.out; have J2 := cells_4 B0.out; have J3 := frozen_4 B0.out) | ((with_reducible refine gate_callee (f := 36) rfl ?_); refine gom_ (some 38) Try.func36 (round_machine_sizes.calls Eq Bc Bd Be Bf Bg Bh Bi Bj Bb Bk _ _ B5 _ _ l1 Bo Bp _ _ Bq _ _ B8 _ _ (Kd.C_below Br.out HB.out) Bs.out (Kd.C_below Ef.out HB.out) Eg.out (Kd.C_below Dk.out HB.out) Dl.out (Kd.C_below Da.out HB.out) Dm.out Ge.out) ?_; rintro e w60 ⟨rfl, hb⟩; refine ⟨_, rfl, ?_⟩; replace B2 := bkb_ B2 hb; replace B0 := bkb_ B0 hb; replace B1 := bkb_ B1 hb; replace HB := bst_ HB hb; (try clear hb)))
      go_ret
      exact ⟨by first | rfl | (simp [*] <;> rfl), by repeat (first | (with_reducible first | exact HB.out | apply ba_ | apply bn_ | apply bd_ | refine bs_ ?_ Bx.out | refine bs_ ?_ By.out | refine bs_ ?_ Bz.out) | exact HB.out)⟩
     ·go_wp2_with (first | ((with_reducible refine gate_load (t := 47) (x := .tmp 8) rfl ?_); refine lrg_ 47 (.tmp 8) B3 47 (by exact B1.out) Try.underlying47 ?_) | ((with_reducible refine gate_callee (f := 35) rfl ?_); refine gom_ (some 33) Try.func35 (round_machine_members.calls Eq Bc Bd Be Bf Bg Bh Bi Bj Bb Bk _ _ B5 _ _ l1 Bp _ _ (Kd.C_below Br.out HB.out) Bs.out (Kd.C_below Ef.out HB.out) Eg.out Fo.out) ?_; rintro e w66 ⟨rfl, hb⟩; refine ⟨_, rfl, ?_⟩; replace B2 := bkb_ B2 hb; replace B0 := bkb_ B0 hb; replace B1 := bkb_ B1 hb; replace HB := bst_ HB hb; (try clear hb)))
      go_ret
      exact ⟨by first | rfl | (simp [*] <;> rfl), by repeat (first | (with_reducible first | exact HB.out | apply ba_ | apply bn_ | apply bd_ | refine bs_ ?_ Bx.out | refine bs_ ?_ By.out | refine bs_ ?_ Bz.out) | exact HB.out)⟩
 ·rw [if_neg c5] at H
  have Es : (Dz == 0) = false := beq_eq_false_iff_ne.mpr c5
  have Et : (Dz != 0) = true := bne_iff_ne.mpr c5
  obtain rfl := Option.some.inj H
  go_enter Try.func14, Try.ntmps14
  go_wp2_with (first | ((with_reducible refine gate_load (t := 47) (x := .tmp 8) rfl ?_); refine lrg_ 47 (.tmp 8) B3 47 (by exact B1.out) Try.underlying47 ?_) | ((with_reducible refine gate_dst (N := 3) rfl ?_); refine bxe_ 3 24 #[.int .i64 Bc, .int .i64 Bd, .int .i64 Be, .int .i64 Bf, .int .i64 Bg, .int .i64 Bh, .int .i64 Bi, .int .i64 Bj, .int .i64 Bb, .int .i64 Bk, .slice Bt B5.length Bu] ?_; intro Dn hg w67 hbox hb; have B2 := am_ (hbox); have E0 := gwk_ HB hg; have Bx := E0; replace HB := bst_ HB hb; clear hb hbox hg) | ((with_reducible refine gate_dst (N := 5) rfl ?_); refine bxe_ 5 32 #[.int .i64 Bo, .string Bp, .slice D5 Bq.length D6, .slice D9 B8.length D7] ?_; intro B6 hg w68 hbox hb; have B0 := am_ (hbox); have E1 := gwk_ HB hg; have By := E1; replace HB := bst_ HB hb; have B7 := nbk_ B2 hg; have Bm := nbs_ B7; replace B2 := bkb_ B2 hb; clear hb hbox hg; have J4 := B7.out; have J5 := Bm.out; have J6 := cells_11 B2.out; have J7 := frozen_11 B2.out) | ((with_reducible refine gate_callee (f := 18) rfl ?_); refine gom_ (some 13) Try.func18 (conf_Plain.calls k Bc Bd Be Bf Bg Bh Bi Bj Bb Bk _ _ B5 _ _ (Kd.C_below Br.out HB.out) Bs.out A4.out) ?_; rintro e w71 ⟨rfl, hb⟩; refine ⟨_, rfl, ?_⟩; replace B2 := bkb_ B2 hb; replace B0 := bkb_ B0 hb; replace HB := bst_ HB hb; (try clear hb)))
  go_ret
  exact ⟨by first | rfl | (simp [*] <;> rfl), by repeat (first | (with_reducible first | exact HB.out | apply ba_ | apply bn_ | apply bd_ | refine bs_ ?_ Bx.out | refine bs_ ?_ By.out) | exact HB.out)⟩
end Go.Proofs.Ytdnccjlfongdeaa.Gn
