import Derived.Test.YtdnccjlfongdeaaZRoundOnlyGn0
import Derived.Test.YtdnccjlfongdeaaZRoundOnlyGn2
import Derived.Test.YtdnccjlfongdeaaZRoundOnlyGn4
import Derived.Test.YtdnccjlfongdeaaZRoundOnlyGn5
import Derived.Test.YtdnccjlfongdeaaZRoundOnlyGn9
import Derived.Test.YtdnccjlfongdeaaZRoundOnlyGn10
import Derived.Test.YtdnccjlfongdeaaZRoundOnlyGn11
namespace Go.Proofs.Ytdnccjlfongdeaa.Gn
open Go.RowKit Go.Proofs.YtdnccjlfongdeaaW.PrintWords Go.Proofs.YtdnccjlfongdeaaW.PrintLast Go.Proofs.YtdnccjlfongdeaaW.PrintMore
attribute [local go_sem] max2_int min2_int max_two min_two max_three min_three max_four min_four   -- for this text's walks alone
set_option linter.unusedVariables false
set_option linter.unusedSimpArgs false
def round_Play.l0 : Nat → List (List (S45)) → List Int → Int → Int → Int → Int → Int → Int → Int → Int → Int → Int → Int → Int → List Int → List Int → Int → ByteArray → List ByteArray → List (List (S45)) → Option (Int × ByteArray × List ByteArray × (List (List (S45))))
 | 0, _, _, _, _, _, _, _, _, _, _, _, _, _, _, _, _, _, _, _, _ => none
 | k + 1, x5, Bh, Bi, Bg, B0, B1, B2, B3, B4, B5, B6, B7, B8, B9, Ba, Bb, Bc, Bf, Bd, Be => if Bg < Bi then (if 0 ≤ Bg then (if Bg < (Bh.length : Int) then (if (rd Bh Bg) < (x5.length : Int) then (if 0 ≤ (rd Bh Bg) then ((round_deliverP.f k B0 B1 B2 B3 B4 B5 B6 B7 B8 B9 Ba Bb B0 B1 B2 B3 B4 B5 B6 B7 B8 B9 Ba Bb (rd_L3 x5 (rd Bh Bg)) Bd Bc).bind fun Bj => (if (rd Bh Bg) < (Be.length : Int) then (round_Play.l0 k x5 Bh Bi (wrap64 (Bg + 1)) B0 B1 B2 B3 B4 B5 B6 B7 B8 B9 Ba Bb Bc Bf Bd (Be.set ((rd Bh Bg) : Int).toNat Bj)) else (none))) else (none)) else ((round_deliverP.f k B0 B1 B2 B3 B4 B5 B6 B7 B8 B9 Ba Bb B0 B1 B2 B3 B4 B5 B6 B7 B8 B9 Ba Bb ([] : List (S45)) Bd Bc).bind fun Bk => (if 0 ≤ (rd Bh Bg) then (if (rd Bh Bg) < (Be.length : Int) then (round_Play.l0 k x5 Bh Bi (wrap64 (Bg + 1)) B0 B1 B2 B3 B4 B5 B6 B7 B8 B9 Ba Bb Bc Bf Bd (Be.set ((rd Bh Bg) : Int).toNat Bk)) else (none)) else (none)))) else (none)) else (none)) else (some (Bc, Bf, Bd, Be))
def round_Play.f (k : Nat) (B1 B3 B4 B5 B6 B7 B8 B9 B2 Ba : Int) (B0 l1 : List Int) (a2 : Int) (a3 : ByteArray) (l4 : List ByteArray) (l5 : List (List (S45))) : Option (Int × ByteArray × List ByteArray × (List (List (S45)))) := (conf_Plain.f k B1 B3 B4 B5 B6 B7 B8 B9 B2 Ba B0).bind fun Bc => (if Bc = 0 then ((num_Mod.f a2 B2).bind fun Bd => ((round_machine_honest.f k B1 B3 B4 B5 B6 B7 B8 B9 B2 Ba B0 l1).bind fun Be => ((roster_Mark.f k B1 B3 B4 B5 B6 B7 B8 B9 B2 Ba B0 a3 Be).bind fun Bf => ((round_machine_lines.f k B1 B3 B4 B5 B6 B7 B8 B9 B2 Ba B0 l1 l4).bind fun Bg => (if 0 ≤ B1 then (if (B1 : Int).toNat ≤ 11728124029610 then ((round_machine_honest.f k B1 B3 B4 B5 B6 B7 B8 B9 B2 Ba B0 l1).bind fun Bb => (round_Play.l0 k l5 Bb (Bb.length : Int) 0 B1 B3 B4 B5 B6 B7 B8 B9 B2 Ba B0 l1 Bd Bf Bg (List.replicate (B1 : Int).toNat []))) else (none)) else (none)))))) else (some (0, (⟨#[]⟩ : ByteArray), ([] : List ByteArray), ([] : List (List (S45))))))
theorem round_Play.mono_l : ∀ k, (∀ y0 y1 y2 y3 y4 y5 y6 y7 y8 y9 B0 B1 B2 B3 B4 B5 B6 B7 B8 B9, LeO (round_Play.l0 k y0 y1 y2 y3 y4 y5 y6 y7 y8 y9 B0 B1 B2 B3 B4 B5 B6 B7 B8 B9) (round_Play.l0 (k + 1) y0 y1 y2 y3 y4 y5 y6 y7 y8 y9 B0 B1 B2 B3 B4 B5 B6 B7 B8 B9))
 | 0 => fun _ _ _ _ _ _ _ _ _ _ _ _ _ _ _ _ _ _ _ _ r h => by simp [round_Play.l0] at h
 | k + 1 => by
  have Ba := round_Play.mono_l k
  ·intro y0 y1 y2 y3 y4 y5 y6 y7 y8 y9 B0 B1 B2 B3 B4 B5 B6 B7 B8 B9
   unfold round_Play.l0
   repeat' first
   | (with_reducible exact Ba _ _ _ _ _ _ _ _ _ _ _ _ _ _ _ _ _ _ _ _)
   | (with_reducible exact conf_Plain.mono _ _ _ _ _ _ _ _ _ _ _ _)
   | (with_reducible exact roster_Mark.mono _ _ _ _ _ _ _ _ _ _ _ _ _ _)
   | (with_reducible exact round_deliverP.mono _ _ _ _ _ _ _ _ _ _ _ _ _ _ _ _ _ _ _ _ _ _ _ _ _ _ _ _)
   | (with_reducible exact round_machine_honest.mono _ _ _ _ _ _ _ _ _ _ _ _ _)
   | (with_reducible exact round_machine_lines.mono _ _ _ _ _ _ _ _ _ _ _ _ _ _)
   | (with_reducible exact LeO.refl _)
   | (with_reducible exact LeO.none _)
   | (with_reducible refine LeO.ite ?_ ?_)
   | (with_reducible refine LeO.bind ?_ (fun _ => ?_))
   | exact Ba _ _ _ _ _ _ _ _ _ _ _ _ _ _ _ _ _ _ _ _
   | exact conf_Plain.mono _ _ _ _ _ _ _ _ _ _ _ _
   | exact roster_Mark.mono _ _ _ _ _ _ _ _ _ _ _ _ _ _
   | exact round_deliverP.mono _ _ _ _ _ _ _ _ _ _ _ _ _ _ _ _ _ _ _ _ _ _ _ _ _ _ _ _
   | exact round_machine_honest.mono _ _ _ _ _ _ _ _ _ _ _ _ _
   | exact round_machine_lines.mono _ _ _ _ _ _ _ _ _ _ _ _ _ _
   | exact LeO.none _
   | refine LeO.ite ?_ ?_
   | refine LeO.bind ?_ (fun _ => ?_)
theorem round_Play.mono : ∀ a0 a1 a2 a3 a4 a5 a6 a7 a8 a9 B0 B1 B2 B3 B4 B5 k, LeO (round_Play.f k a0 a1 a2 a3 a4 a5 a6 a7 a8 a9 B0 B1 B2 B3 B4 B5) (round_Play.f (k + 1) a0 a1 a2 a3 a4 a5 a6 a7 a8 a9 B0 B1 B2 B3 B4 B5) := by
 intro a0 a1 a2 a3 a4 a5 a6 a7 a8 a9 B0 B1 B2 B3 B4 B5 k
 have B6 := round_Play.mono_l k
 unfold round_Play.f
 repeat' first
   | (with_reducible exact B6 _ _ _ _ _ _ _ _ _ _ _ _ _ _ _ _ _ _ _ _)
   | (with_reducible exact conf_Plain.mono _ _ _ _ _ _ _ _ _ _ _ _)
   | (with_reducible exact roster_Mark.mono _ _ _ _ _ _ _ _ _ _ _ _ _ _)
   | (with_reducible exact round_deliverP.mono _ _ _ _ _ _ _ _ _ _ _ _ _ _ _ _ _ _ _ _ _ _ _ _ _ _ _ _)
   | (with_reducible exact round_machine_honest.mono _ _ _ _ _ _ _ _ _ _ _ _ _)
   | (with_reducible exact round_machine_lines.mono _ _ _ _ _ _ _ _ _ _ _ _ _ _)
   | (with_reducible exact LeO.refl _)
   | (with_reducible exact LeO.none _)
   | (with_reducible refine LeO.ite ?_ ?_)
   | (with_reducible refine LeO.bind ?_ (fun _ => ?_))
   | exact B6 _ _ _ _ _ _ _ _ _ _ _ _ _ _ _ _ _ _ _ _
   | exact conf_Plain.mono _ _ _ _ _ _ _ _ _ _ _ _
   | exact roster_Mark.mono _ _ _ _ _ _ _ _ _ _ _ _ _ _
   | exact round_deliverP.mono _ _ _ _ _ _ _ _ _ _ _ _ _ _ _ _ _ _ _ _ _ _ _ _ _ _ _ _
   | exact round_machine_honest.mono _ _ _ _ _ _ _ _ _ _ _ _ _
   | exact round_machine_lines.mono _ _ _ _ _ _ _ _ _ _ _ _ _ _
   | exact LeO.none _
   | refine LeO.ite ?_ ?_
   | refine LeO.bind ?_ (fun _ => ?_)
def round_Play.T4 : Bool × List (List Nat × List Nat) := (true, [([], []), ([], []), ([1], [1]), ([0, 2], [0, 2]), ([], []), ([], []), ([], []), ([6, 3], [6]), ([4, 5, 7, 7], [4, 5, 7]), ([], []), ([], []), ([9, 10, 8], [9, 10]), ([], []), ([12], [12]), ([13, 13], [13]), ([3, 8, 11, 14], [3, 8, 11, 14]), ([], []), ([16, 15, 11, 0, 1, 2, 3, 4, 5, 6, 7, 8, 9, 10, 11, 12, 13, 14, 15, 16], [15, 16])])
def round_Play.B4 : List Nat := [0, 0, 2, 7, 0, 0, 0, 79, 255, 0, 0, 2047, 0, 4096, 12288, 32767, 0, 131071]
theorem round_Play.tab4 : rtab .any (opsOf Try.f9 4) = round_Play.T4 := by kernel_rfl
theorem round_Play.bits4 : waitsOk round_Play.T4.2 round_Play.B4 = true := by kernel_rfl
def round_Play.T11 : Bool × List (List Nat × List Nat) := (true, [([], []), ([0], [0]), ([], []), ([], []), ([], []), ([], []), ([5], [5]), ([3, 4, 6], [3, 4, 6]), ([1, 2, 0, 1, 2, 3, 4, 5, 6, 7], [1, 2]), ([8, 7, 7, 0, 1, 2, 3, 4, 5, 6, 7], [7, 8])])
def round_Play.B11 : List Nat := [0, 1, 0, 0, 0, 0, 32, 120, 255, 511]
theorem round_Play.tab11 : rtab .any (opsOf Try.f9 11) = round_Play.T11 := by kernel_rfl
theorem round_Play.bits11 : waitsOk round_Play.T11.2 round_Play.B11 = true := by kernel_rfl
set_option maxHeartbeats 8000000 in
set_option maxRecDepth 100000 in
theorem round_Play.calls (k : Nat) (B9 Be Bf Bg Bh Bi Bj Bk Bd Bl : Int) (B7 : Option Addr) (B8 : Nat) (B4 : List Int) (A1 : Option Addr) (c1 : Nat) (l1 : List Int) (a2 : Int) (a3 : ByteArray) (A4 : Option Addr) (c4 : Nat) (l4 : List ByteArray) (A5 : Option Addr) (c5 : Nat) (l5 : List (List (S45))) (r1 : Int) (r2 : ByteArray) (r3 : List ByteArray) (r4 : List (List (S45))) (w : World) (Fr : Kd.C (Kd.int .i64) w B7 B4.length B4) (Fs : B4.length ≤ B8) (R2 : Kd.C (Kd.int .i64) w A1 l1.length l1) (R3 : l1.length ≤ c1) (R4 : Kd.C Kd.string w A4 l4.length l4) (R5 : l4.length ≤ c4) (R6 : Kd.C (Kd.slice 45 k45) w A5 l5.length l5) (R7 : l5.length ≤ c5) (h : round_Play.f k B9 Be Bf Bg Bh Bi Bj Bk Bd Bl B4 l1 a2 a3 l4 l5 = some (r1, r2, r3, r4)) :
  Calls Try.prog 9 #[.agg #[.int .i64 B9, .int .i64 Be, .int .i64 Bf, .int .i64 Bg, .int .i64 Bh, .int .i64 Bi, .int .i64 Bj, .int .i64 Bk, .int .i64 Bd, .int .i64 Bl, .slice B7 B4.length B8], .slice A1 l1.length c1, .int .i64 a2, .string a3, .slice A4 l4.length c4, .slice A5 l5.length c5] w fun e w' => ∃ O0 R8 : Value, e = .returned (.agg #[.int .i64 r1, .string r2, O0, R8]) ∧ Kd.R Kd.string 9 w' w.heap.size (fun k_ => (w.heap.size ≤ k_)) O0 r3 ∧ Kd.N (Kd.slice 45 k45) 42 w' w.heap.size (fun k_ => (w.heap.size ≤ k_) ∧ some k_ ≠ (O0 : Value).ownBlock) R8 r4 ∧ Below w.heap.size w w' := by
 have Vo := Try.underlying24
 have Vp := Try.underlying32
 have D7 := am_ Fr
 have D8 := am_ Fs
 clear Fr Fs
 have Fm := am_ R2
 have Fn := am_ R3
 clear R2 R3
 have Lh := am_ R4
 have Li := am_ R5
 clear R4 R5
 have Vq := am_ R6
 have X5 := am_ R7
 clear R6 R7
 have HB := am_ (Below.refl w.heap.size w)
 have H := h
 unfold round_Play.f at H
 clear h
 obtain ⟨Ft, A7, H⟩ := bes_ H
 try dsimp only at H
 by_cases c8 : Ft = 0
 ·rw [if_pos c8] at H
  have O1 : (Ft == 0) = true := beq_iff_eq.mpr c8
  have O2 : (Ft != 0) = false := bne_eq_false_iff_eq.mpr c8
  clear c8
  obtain ⟨D5, A9, H⟩ := bes_ H
  try dsimp only at H
  obtain ⟨D9, Lj, H⟩ := bes_ H
  try dsimp only at H
  obtain ⟨Dc, Lk, H⟩ := bes_ H
  try dsimp only at H
  obtain ⟨D4, Ll, H⟩ := bes_ H
  try dsimp only at H
  by_cases Jh : 0 ≤ B9
  ·rw [if_pos Jh] at H
   have R9 := eq_true Jh
   have Ra : decide (0 ≤ B9) = true := decide_eq_true Jh
   clear Jh
   by_cases Ji : (B9 : Int).toNat ≤ 11728124029610
   ·rw [if_pos Ji] at H
    have Rb := eq_true Ji
    have Rc : decide ((B9 : Int).toNat ≤ 11728124029610) = true := decide_eq_true Ji
    clear Ji
    obtain ⟨y413, hy413⟩ : ∃ y_ : List (List (S45)), y_ = (List.replicate (B9 : Int).toNat []) := ⟨_, rfl⟩
    replace H : ((round_machine_honest.f k B9 Be Bf Bg Bh Bi Bj Bk Bd Bl B4 l1).bind fun By => (round_Play.l0 k l5 By (By.length : Int) 0 B9 Be Bf Bg Bh Bi Bj Bk Bd Bl B4 l1 D5 Dc D4 y413)) = some (r1, r2, r3, r4) := by first | (rw [hy413]; with_reducible exact H) | (have Fu := (Option.bind_some _ _).symm.trans H; rw [hy413]; with_reducible exact Fu) | (have Fu := (Option.bind_some _ _).symm.trans H; with_reducible exact Fu) | with_reducible exact H | (rw [hy413]; exact H) | exact H
    have Dh := am_ hy413
    clear hy413
    obtain ⟨By, Vr, H⟩ := bes_ H
    try dsimp only at H
    have H' := am_ H
    clear H
    go_enter Try.func9, Try.ntmps9
    try go_wp2_with (first | ((with_reducible refine gate_load (t := 47) (x := .tmp 13) rfl ?_); refine lrg_ 47 (.tmp 13) B0 47 (by (with_reducible repeat (first | apply kn_ | apply kd_ | apply ka_)); with_reducible exact B2.out) Try.underlying47 ?_) | ((with_reducible refine gate_dst (N := 6) rfl ?_); refine bxe_ 6 24 #[.int .i64 B9, .int .i64 Be, .int .i64 Bf, .int .i64 Bg, .int .i64 Bh, .int .i64 Bi, .int .i64 Bj, .int .i64 Bk, .int .i64 Bd, .int .i64 Bl, .slice B7 B4.length B8] ?_; intro B1 hg w16 hbox hb; have B3 := am_ (hbox); have Fv := gwk_ HB hg; have D0 := Fv; replace HB := bst_ HB hb; clear hb hbox hg) | ((with_reducible refine gate_dst (N := 12) rfl ?_); refine bxe_ 12 32 #[.int .i64 0, .string (⟨#[]⟩ : ByteArray), .slice none 0 0, .slice none 0 0] ?_; intro Bb hg w17 hbox hb; have B5 := am_ (hbox); have Fw := gwk_ HB hg; have D1 := Fw; replace HB := bst_ HB hb; have Dz := nbk_ B3 hg; have Ee := nbs_ Dz; replace B3 := bkb_ B3 hb; clear hb hbox hg; have Rd := Dz.out; have Re := Ee.out; have Rf := cells_11 B3.out; have Rg := frozen_11 B3.out) | ((with_reducible refine gate_callee (f := 18) rfl ?_); refine gom_ (some 19) Try.func18 (conf_Plain.calls k B9 Be Bf Bg Bh Bi Bj Bk Bd Bl _ _ B4 _ _ (Kd.C_below D7.out HB.out) D8.out A7.out) ?_; rintro e w20 ⟨rfl, hb⟩; refine ⟨_, rfl, ?_⟩; replace B3 := bkb_ B3 hb; replace B5 := bkb_ B5 hb; replace HB := bst_ HB hb; (try clear hb); have Rh := cells_11 B3.out; have Ri := frozen_11 B3.out) | ((with_reducible refine gate_dst (N := 13) rfl ?_); refine bxe_ 13 47 #[.int .i64 0, .int .i64 0, .int .i64 0, .int .i64 0, .int .i64 0, .int .i64 0, .int .i64 0, .int .i64 0, .int .i64 0, .int .i64 0, .slice none 0 0, .slice none 0 0] ?_; intro B0 hg w22 hbox hb; have B2 := am_ (hbox); have Jj := gwk_ HB hg; have D2 := Jj; replace HB := bst_ HB hb; have Er := nbk_ B3 hg; have Fo := nbs_ Er; replace B3 := bkb_ B3 hb; have Ef := nbk_ B5 hg; have F0 := nbs_ Ef; replace B5 := bkb_ B5 hb; clear hb hbox hg) | ((with_reducible refine gate_store (t := 47) (p := 13) rfl ?_); refine row_store_event (t := 47) (p := 13) (v := ?vo_w23) ?hgd ?ho ?hn B0 #[.int .i64 B9, .int .i64 Be, .int .i64 Bf, .int .i64 Bg, .int .i64 Bh, .int .i64 Bi, .int .i64 Bj, .int .i64 Bk, .int .i64 Bd, .int .i64 Bl, .slice B7 B4.length B8, .slice A1 l1.length c1] ?hx ?hy 47 #[.int .i64 0, .int .i64 0, .int .i64 0, .int .i64 0, .int .i64 0, .int .i64 0, .int .i64 0, .int .i64 0, .int .i64 0, .int .i64 0, .slice none 0 0, .slice none 0 0] ?hg ?hi ?hold ?h1 ?_; (case hgd => rfl); (case ho => rfl); (case hn => rfl); (case hx => rfl); (case hy => rfl); (case hg => exact (by (with_reducible repeat (first | apply kn_ | apply kd_ | apply ka_)); exact B2.out)); (case hi => kernel_rfl); (case hold => rfl); (case h1 => (first | kernel_rfl | simp [Value.oneCell'])); intro w23 hw; have Dd : Aside0 (w23.heap[B1]? = some (.cells #[.int .i64 B9, .int .i64 Be, .int .i64 Bf, .int .i64 Bg, .int .i64 Bh, .int .i64 Bi, .int .i64 Bj, .int .i64 Bk, .int .i64 Bd, .int .i64 Bl, .slice B7 B4.length B8] 24 (0, 0))) := ⟨(by rw [hw]; exact (by (with_reducible repeat (first | apply kn_ | apply kd_ | apply ka_)); refine blk_farc ?_ Er.out; (with_reducible repeat (first | apply kn_ | apply kd_ | apply ka_)); exact B3.out))⟩; have De : Aside0 (w23.heap[Bb]? = some (.cells #[.int .i64 0, .string (⟨#[]⟩ : ByteArray), .slice none 0 0, .slice none 0 0] 32 (0, 0))) := ⟨(by rw [hw]; exact (by (with_reducible repeat (first | apply kn_ | apply kd_ | apply ka_)); refine blk_farc ?_ Ef.out; (with_reducible repeat (first | apply kn_ | apply kd_ | apply ka_)); exact B5.out))⟩; have Df : Aside0 (w23.heap[B0]? = some (.cells #[.int .i64 B9, .int .i64 Be, .int .i64 Bf, .int .i64 Bg, .int .i64 Bh, .int .i64 Bi, .int .i64 Bj, .int .i64 Bk, .int .i64 Bd, .int .i64 Bl, .slice B7 B4.length B8, .slice A1 l1.length c1] 47 (0, 0))) := ⟨(by rw [hw]; exact (by (with_reducible repeat (first | apply kn_ | apply kd_ | apply ka_)); refine setRow_heap _ _ #[.int .i64 0, .int .i64 0, .int .i64 0, .int .i64 0, .int .i64 0, .int .i64 0, .int .i64 0, .int .i64 0, .int .i64 0, .int .i64 0, .slice none 0 0, .slice none 0 0] _ 47 (0, 0) ?_; (with_reducible repeat (first | apply kn_ | apply kd_ | apply ka_)); exact B2.out))⟩; have Dg : Aside0 (Below w.heap.size w w23) := ⟨(by rw [hw]; exact (by repeat (first | (with_reducible first | exact HB.out | refine below_setc ?_ D2.out | apply below_alloc | apply pw_below_drewN | apply below_drew1 | refine bs_ ?_ D0.out | refine bs_ ?_ D1.out | refine bs_ ?_ D2.out) | exact HB.out)))⟩; clear hw; clear B3; clear B5; clear B2; clear HB; have B3 := Dd; have B5 := De; have B2 := Df; have HB := Dg; clear Dd De Df Dg))
    replace B3 := am_ (blk_drew B3.out)
    replace B5 := am_ (blk_drew B5.out)
    replace B2 := am_ (blk_drew B2.out)
    replace HB := am_ (below_drew1 HB.out)
    refine start_ (n := 18) (S := fun w' => ce_ w' B1 0 (.int .i64 B9) ∧ ce_ w' B1 1 (.int .i64 Be) ∧ ce_ w' B1 2 (.int .i64 Bf) ∧ ce_ w' B1 3 (.int .i64 Bg) ∧ ce_ w' B1 4 (.int .i64 Bh) ∧ ce_ w' B1 5 (.int .i64 Bi) ∧ ce_ w' B1 6 (.int .i64 Bj) ∧ ce_ w' B1 7 (.int .i64 Bk) ∧ ce_ w' B1 8 (.int .i64 Bd) ∧ ce_ w' B1 9 (.int .i64 Bl) ∧ ce_ w' B1 10 (.slice B7 B4.length B8) ∧ ce_ w' B0 0 (.int .i64 B9) ∧ ce_ w' B0 1 (.int .i64 Be) ∧ ce_ w' B0 2 (.int .i64 Bf) ∧ ce_ w' B0 3 (.int .i64 Bg) ∧ ce_ w' B0 4 (.int .i64 Bh) ∧ ce_ w' B0 5 (.int .i64 Bi) ∧ ce_ w' B0 6 (.int .i64 Bj) ∧ ce_ w' B0 7 (.int .i64 Bk) ∧ ce_ w' B0 8 (.int .i64 Bd) ∧ ce_ w' B0 9 (.int .i64 Bl) ∧ ce_ w' B0 10 (.slice B7 B4.length B8) ∧ ce_ w' B0 11 (.slice A1 l1.length c1)) (ds := []) #[false, false, false, false, false, false, false, false, false, false, false, false, false, false, false, false, false, false] (by kernel_rfl) rfl rfl ⟨(blk_cell B3.out 0).trans rfl, (blk_cell B3.out 1).trans rfl, (blk_cell B3.out 2).trans rfl, (blk_cell B3.out 3).trans rfl, (blk_cell B3.out 4).trans rfl, (blk_cell B3.out 5).trans rfl, (blk_cell B3.out 6).trans rfl, (blk_cell B3.out 7).trans rfl, (blk_cell B3.out 8).trans rfl, (blk_cell B3.out 9).trans rfl, (blk_cell B3.out 10).trans rfl, (blk_cell B2.out 0).trans rfl, (blk_cell B2.out 1).trans rfl, (blk_cell B2.out 2).trans rfl, (blk_cell B2.out 3).trans rfl, (blk_cell B2.out 4).trans rfl, (blk_cell B2.out 5).trans rfl, (blk_cell B2.out 6).trans rfl, (blk_cell B2.out 7).trans rfl, (blk_cell B2.out 8).trans rfl, (blk_cell B2.out 9).trans rfl, (blk_cell B2.out 10).trans rfl, (blk_cell B2.out 11).trans rfl⟩ (fun hHeld => ?_); refine with_tabW round_Play.tab4 round_Play.bits4 (fun HT_ HW_ => ?_)
    generalize w23.drew = w24 at B3 B5 B2 HB hHeld ⊢
    refine pur_ 0 (some 25) rfl rfl (any_of HT_.out (by kernel_rfl)) ?_
    refine pur_ 1 (some 26) rfl rfl (any_of HT_.out (by kernel_rfl)) ?_
    refine pur_ 5 (some 30) rfl rfl (any_of HT_.out (by kernel_rfl)) ?_
    refine pur_ 10 (some 35) rfl rfl (any_of HT_.out (by kernel_rfl)) ?_
    refine pur_ 12 (some 37) rfl rfl (any_of HT_.out (by kernel_rfl)) ?_
    refine tak_ 2 (some 27) rfl rfl (take_ofW HT_.out HW_.out (by kernel_rfl)) hHeld ?_ (by rintro w' ⟨s0, s1, s2, s3, s4, s5, s6, s7, s8, s9, s10, s11, s12, s13, s14, s15, s16, s17, s18, s19, s20, s21, s22⟩; (first | (refine load_cells_12 (ty := 47) (x := .tmp 13) (g := B0) ?hlo_ ?hx_ Try.underlying47 ?hd_ ?hi_ s11 s12 s13 s14 s15 s16 s17 s18 s19 s20 s21 s22; (case hlo_ => rfl); (case hx_ => rfl); (case hd_ => rfl); (case hi_ => kernel_rfl)) | (go_simp; with_reducible rfl)))
    refine tak_ 4 (some 29) rfl rfl (take_ofW HT_.out HW_.out (by kernel_rfl)) hHeld ?_ (by rintro w' ⟨s0, s1, s2, s3, s4, s5, s6, s7, s8, s9, s10, s11, s12, s13, s14, s15, s16, s17, s18, s19, s20, s21, s22⟩; (first | (refine load_cells_12 (ty := 47) (x := .tmp 13) (g := B0) ?hlo_ ?hx_ Try.underlying47 ?hd_ ?hi_ s11 s12 s13 s14 s15 s16 s17 s18 s19 s20 s21 s22; (case hlo_ => rfl); (case hx_ => rfl); (case hd_ => rfl); (case hi_ => kernel_rfl)) | (go_simp; with_reducible rfl)))
    refine tak_ 6 (some 31) rfl rfl (take_ofW HT_.out HW_.out (by kernel_rfl)) hHeld ?_ (by rintro w' ⟨s0, s1, s2, s3, s4, s5, s6, s7, s8, s9, s10, s11, s12, s13, s14, s15, s16, s17, s18, s19, s20, s21, s22⟩; (first | (refine load_cells_12 (ty := 47) (x := .tmp 13) (g := B0) ?hlo_ ?hx_ Try.underlying47 ?hd_ ?hi_ s11 s12 s13 s14 s15 s16 s17 s18 s19 s20 s21 s22; (case hlo_ => rfl); (case hx_ => rfl); (case hd_ => rfl); (case hi_ => kernel_rfl)) | (go_simp; with_reducible rfl)))
    refine tak_ 9 (some 34) rfl rfl (take_ofW HT_.out HW_.out (by kernel_rfl)) hHeld ?_ (by rintro w' ⟨s0, s1, s2, s3, s4, s5, s6, s7, s8, s9, s10, s11, s12, s13, s14, s15, s16, s17, s18, s19, s20, s21, s22⟩; (first | (refine load_cells_12 (ty := 47) (x := .tmp 13) (g := B0) ?hlo_ ?hx_ Try.underlying47 ?hd_ ?hi_ s11 s12 s13 s14 s15 s16 s17 s18 s19 s20 s21 s22; (case hlo_ => rfl); (case hx_ => rfl); (case hd_ => rfl); (case hi_ => kernel_rfl)) | (go_simp; with_reducible rfl)))
    refine tak_ 13 (some 38) rfl rfl (take_ofW HT_.out HW_.out (by kernel_rfl)) hHeld ?_ (by rintro w' ⟨s0, s1, s2, s3, s4, s5, s6, s7, s8, s9, s10, s11, s12, s13, s14, s15, s16, s17, s18, s19, s20, s21, s22⟩; (first | (refine load_cells_12 (ty := 47) (x := .tmp 13) (g := B0) ?hlo_ ?hx_ Try.underlying47 ?hd_ ?hi_ s11 s12 s13 s14 s15 s16 s17 s18 s19 s20 s21 s22; (case hlo_ => rfl); (case hx_ => rfl); (case hd_ => rfl); (case hi_ => kernel_rfl)) | (go_simp; with_reducible rfl)))
    refine join_ (σ := Value × Value × Value × Nat) 1 #[true, true, true, true, true, true, true, true, true, true, true, true, true, true, true, true, true, false] (fun s_ => [(28, .int .i64 D5), (32, s_.1), (33, .string Dc), (36, s_.2.1), (39, s_.2.2.1), (14, .pointer (some ⟨s_.2.2.2, 0, none⟩)), (40, .agg #[.int .i64 D5, .string Dc, s_.2.1, s_.2.2.1])]) (fun s_ w' => (ce_ w' B1 0 (.int .i64 B9) ∧ ce_ w' B1 1 (.int .i64 Be) ∧ ce_ w' B1 2 (.int .i64 Bf) ∧ ce_ w' B1 3 (.int .i64 Bg) ∧ ce_ w' B1 4 (.int .i64 Bh) ∧ ce_ w' B1 5 (.int .i64 Bi) ∧ ce_ w' B1 6 (.int .i64 Bj) ∧ ce_ w' B1 7 (.int .i64 Bk) ∧ ce_ w' B1 8 (.int .i64 Bd) ∧ ce_ w' B1 9 (.int .i64 Bl) ∧ ce_ w' B1 10 (.slice B7 B4.length B8) ∧ ce_ w' B0 0 (.int .i64 B9) ∧ ce_ w' B0 1 (.int .i64 Be) ∧ ce_ w' B0 2 (.int .i64 Bf) ∧ ce_ w' B0 3 (.int .i64 Bg) ∧ ce_ w' B0 4 (.int .i64 Bh) ∧ ce_ w' B0 5 (.int .i64 Bi) ∧ ce_ w' B0 6 (.int .i64 Bj) ∧ ce_ w' B0 7 (.int .i64 Bk) ∧ ce_ w' B0 8 (.int .i64 Bd) ∧ ce_ w' B0 9 (.int .i64 Bl) ∧ ce_ w' B0 10 (.slice B7 B4.length B8) ∧ ce_ w' B0 11 (.slice A1 l1.length c1)) ∧ (Kd.R (Kd.int .i64) 3 w' w.heap.size (fun k_ => (w.heap.size ≤ k_)) s_.1 D9) ∧ (Kd.R Kd.string 9 w' w.heap.size (fun k_ => (w.heap.size ≤ k_)) s_.2.1 D4) ∧ (Kd.N (Kd.slice 45 k45) 42 w' w.heap.size (fun k_ => (w.heap.size ≤ k_) ∧ some k_ ≠ (s_.1 : Value).ownBlock ∧ some k_ ≠ (s_.2.1 : Value).ownBlock ∧ k_ ≠ B1 ∧ k_ ≠ Bb ∧ k_ ≠ B0 ∧ k_ ≠ s_.2.2.2) s_.2.2.1 y413) ∧ (w'.heap[B1]? = some (.cells #[.int .i64 B9, .int .i64 Be, .int .i64 Bf, .int .i64 Bg, .int .i64 Bh, .int .i64 Bi, .int .i64 Bj, .int .i64 Bk, .int .i64 Bd, .int .i64 Bl, .slice B7 B4.length B8] 24 (0, 0))) ∧ (w'.heap[Bb]? = some (.cells #[.int .i64 0, .string (⟨#[]⟩ : ByteArray), .slice none 0 0, .slice none 0 0] 32 (0, 0))) ∧ (w'.heap[B0]? = some (.cells #[.int .i64 B9, .int .i64 Be, .int .i64 Bf, .int .i64 Bg, .int .i64 Bh, .int .i64 Bi, .int .i64 Bj, .int .i64 Bk, .int .i64 Bd, .int .i64 Bl, .slice B7 B4.length B8, .slice A1 l1.length c1] 47 (0, 0))) ∧ (w'.heap[s_.2.2.2]? = some (.cells #[.int .i64 0, .string (⟨#[]⟩ : ByteArray), .slice none 0 0, .slice none 0 0] 32 (0, 0))) ∧ (w.heap.size ≤ s_.2.2.2) ∧ (w.heap.size ≤ s_.2.2.2) ∧ (B1 ≠ s_.2.2.2) ∧ (s_.2.2.2 ≠ B1) ∧ (Bb ≠ s_.2.2.2) ∧ (s_.2.2.2 ≠ Bb) ∧ (B0 ≠ s_.2.2.2) ∧ (s_.2.2.2 ≠ B0) ∧ (Below w.heap.size w w')) ?_ ?_
    rotate_left
    ·intro Dv
     refine join_ (σ := Value × Value × Value) 2 #[true, true, true, true, true, true, true, true, true, true, true, true, true, true, true, true, false, false] (fun s_ => [(28, .int .i64 D5), (32, s_.1), (33, .string Dc), (36, s_.2.1), (39, s_.2.2), (40, .agg #[.int .i64 D5, .string Dc, s_.2.1, s_.2.2])]) (fun s_ w' => (ce_ w' B1 0 (.int .i64 B9) ∧ ce_ w' B1 1 (.int .i64 Be) ∧ ce_ w' B1 2 (.int .i64 Bf) ∧ ce_ w' B1 3 (.int .i64 Bg) ∧ ce_ w' B1 4 (.int .i64 Bh) ∧ ce_ w' B1 5 (.int .i64 Bi) ∧ ce_ w' B1 6 (.int .i64 Bj) ∧ ce_ w' B1 7 (.int .i64 Bk) ∧ ce_ w' B1 8 (.int .i64 Bd) ∧ ce_ w' B1 9 (.int .i64 Bl) ∧ ce_ w' B1 10 (.slice B7 B4.length B8) ∧ ce_ w' B0 0 (.int .i64 B9) ∧ ce_ w' B0 1 (.int .i64 Be) ∧ ce_ w' B0 2 (.int .i64 Bf) ∧ ce_ w' B0 3 (.int .i64 Bg) ∧ ce_ w' B0 4 (.int .i64 Bh) ∧ ce_ w' B0 5 (.int .i64 Bi) ∧ ce_ w' B0 6 (.int .i64 Bj) ∧ ce_ w' B0 7 (.int .i64 Bk) ∧ ce_ w' B0 8 (.int .i64 Bd) ∧ ce_ w' B0 9 (.int .i64 Bl) ∧ ce_ w' B0 10 (.slice B7 B4.length B8) ∧ ce_ w' B0 11 (.slice A1 l1.length c1)) ∧ (Kd.R (Kd.int .i64) 3 w' w.heap.size (fun k_ => (w.heap.size ≤ k_)) s_.1 D9) ∧ (Kd.R Kd.string 9 w' w.heap.size (fun k_ => (w.heap.size ≤ k_)) s_.2.1 D4) ∧ (Kd.N (Kd.slice 45 k45) 42 w' w.heap.size (fun k_ => (w.heap.size ≤ k_) ∧ some k_ ≠ (s_.1 : Value).ownBlock ∧ some k_ ≠ (s_.2.1 : Value).ownBlock ∧ k_ ≠ B1 ∧ k_ ≠ Bb ∧ k_ ≠ B0) s_.2.2 y413) ∧ (w'.heap[B1]? = some (.cells #[.int .i64 B9, .int .i64 Be, .int .i64 Bf, .int .i64 Bg, .int .i64 Bh, .int .i64 Bi, .int .i64 Bj, .int .i64 Bk, .int .i64 Bd, .int .i64 Bl, .slice B7 B4.length B8] 24 (0, 0))) ∧ (w'.heap[Bb]? = some (.cells #[.int .i64 0, .string (⟨#[]⟩ : ByteArray), .slice none 0 0, .slice none 0 0] 32 (0, 0))) ∧ (w'.heap[B0]? = some (.cells #[.int .i64 B9, .int .i64 Be, .int .i64 Bf, .int .i64 Bg, .int .i64 Bh, .int .i64 Bi, .int .i64 Bj, .int .i64 Bk, .int .i64 Bd, .int .i64 Bl, .slice B7 B4.length B8, .slice A1 l1.length c1] 47 (0, 0))) ∧ (Below w.heap.size w w')) ?_ ?_
     rotate_left
     ·intro Ei
      refine join_ (σ := Value × Value × Nat) 3 #[true, true, true, true, true, true, true, true, true, true, true, true, true, true, false, false, true, false] (fun s_ => [(28, .int .i64 D5), (32, s_.1), (33, .string Dc), (36, s_.2.1), (14, .pointer (some ⟨s_.2.2, 0, none⟩))]) (fun s_ w' => (ce_ w' B1 0 (.int .i64 B9) ∧ ce_ w' B1 1 (.int .i64 Be) ∧ ce_ w' B1 2 (.int .i64 Bf) ∧ ce_ w' B1 3 (.int .i64 Bg) ∧ ce_ w' B1 4 (.int .i64 Bh) ∧ ce_ w' B1 5 (.int .i64 Bi) ∧ ce_ w' B1 6 (.int .i64 Bj) ∧ ce_ w' B1 7 (.int .i64 Bk) ∧ ce_ w' B1 8 (.int .i64 Bd) ∧ ce_ w' B1 9 (.int .i64 Bl) ∧ ce_ w' B1 10 (.slice B7 B4.length B8) ∧ ce_ w' B0 0 (.int .i64 B9) ∧ ce_ w' B0 1 (.int .i64 Be) ∧ ce_ w' B0 2 (.int .i64 Bf) ∧ ce_ w' B0 3 (.int .i64 Bg) ∧ ce_ w' B0 4 (.int .i64 Bh) ∧ ce_ w' B0 5 (.int .i64 Bi) ∧ ce_ w' B0 6 (.int .i64 Bj) ∧ ce_ w' B0 7 (.int .i64 Bk) ∧ ce_ w' B0 8 (.int .i64 Bd) ∧ ce_ w' B0 9 (.int .i64 Bl) ∧ ce_ w' B0 10 (.slice B7 B4.length B8) ∧ ce_ w' B0 11 (.slice A1 l1.length c1)) ∧ (Kd.R (Kd.int .i64) 3 w' w.heap.size (fun k_ => (w.heap.size ≤ k_)) s_.1 D9) ∧ (Kd.R Kd.string 9 w' w.heap.size (fun k_ => (w.heap.size ≤ k_)) s_.2.1 D4) ∧ (w'.heap[B1]? = some (.cells #[.int .i64 B9, .int .i64 Be, .int .i64 Bf, .int .i64 Bg, .int .i64 Bh, .int .i64 Bi, .int .i64 Bj, .int .i64 Bk, .int .i64 Bd, .int .i64 Bl, .slice B7 B4.length B8] 24 (0, 0))) ∧ (w'.heap[Bb]? = some (.cells #[.int .i64 0, .string (⟨#[]⟩ : ByteArray), .slice none 0 0, .slice none 0 0] 32 (0, 0))) ∧ (w'.heap[B0]? = some (.cells #[.int .i64 B9, .int .i64 Be, .int .i64 Bf, .int .i64 Bg, .int .i64 Bh, .int .i64 Bi, .int .i64 Bj, .int .i64 Bk, .int .i64 Bd, .int .i64 Bl, .slice B7 B4.length B8, .slice A1 l1.length c1] 47 (0, 0))) ∧ (w'.heap[s_.2.2]? = some (.cells #[.int .i64 0, .string (⟨#[]⟩ : ByteArray), .slice none 0 0, .slice none 0 0] 32 (0, 0))) ∧ (w.heap.size ≤ s_.2.2) ∧ (w.heap.size ≤ s_.2.2) ∧ (B1 ≠ s_.2.2) ∧ (s_.2.2 ≠ B1) ∧ (Bb ≠ s_.2.2) ∧ (s_.2.2 ≠ Bb) ∧ (B0 ≠ s_.2.2) ∧ (s_.2.2 ≠ B0) ∧ (Below w.heap.size w w')) ?_ ?_
      rotate_left
      ·intro Ej
       refine join_ (σ := Value × Value × Nat) 3 #[true, true, true, true, true, true, true, true, true, true, true, false, true, true, true, false, true, false] (fun s_ => [(28, .int .i64 D5), (32, s_.1), (33, .string Dc), (39, s_.2.1), (14, .pointer (some ⟨s_.2.2, 0, none⟩))]) (fun s_ w' => (ce_ w' B1 0 (.int .i64 B9) ∧ ce_ w' B1 1 (.int .i64 Be) ∧ ce_ w' B1 2 (.int .i64 Bf) ∧ ce_ w' B1 3 (.int .i64 Bg) ∧ ce_ w' B1 4 (.int .i64 Bh) ∧ ce_ w' B1 5 (.int .i64 Bi) ∧ ce_ w' B1 6 (.int .i64 Bj) ∧ ce_ w' B1 7 (.int .i64 Bk) ∧ ce_ w' B1 8 (.int .i64 Bd) ∧ ce_ w' B1 9 (.int .i64 Bl) ∧ ce_ w' B1 10 (.slice B7 B4.length B8) ∧ ce_ w' B0 0 (.int .i64 B9) ∧ ce_ w' B0 1 (.int .i64 Be) ∧ ce_ w' B0 2 (.int .i64 Bf) ∧ ce_ w' B0 3 (.int .i64 Bg) ∧ ce_ w' B0 4 (.int .i64 Bh) ∧ ce_ w' B0 5 (.int .i64 Bi) ∧ ce_ w' B0 6 (.int .i64 Bj) ∧ ce_ w' B0 7 (.int .i64 Bk) ∧ ce_ w' B0 8 (.int .i64 Bd) ∧ ce_ w' B0 9 (.int .i64 Bl) ∧ ce_ w' B0 10 (.slice B7 B4.length B8) ∧ ce_ w' B0 11 (.slice A1 l1.length c1)) ∧ (Kd.R (Kd.int .i64) 3 w' w.heap.size (fun k_ => (w.heap.size ≤ k_)) s_.1 D9) ∧ (Kd.N (Kd.slice 45 k45) 42 w' w.heap.size (fun k_ => (w.heap.size ≤ k_) ∧ some k_ ≠ (s_.1 : Value).ownBlock ∧ k_ ≠ B1 ∧ k_ ≠ Bb ∧ k_ ≠ B0 ∧ k_ ≠ s_.2.2) s_.2.1 y413) ∧ (w'.heap[B1]? = some (.cells #[.int .i64 B9, .int .i64 Be, .int .i64 Bf, .int .i64 Bg, .int .i64 Bh, .int .i64 Bi, .int .i64 Bj, .int .i64 Bk, .int .i64 Bd, .int .i64 Bl, .slice B7 B4.length B8] 24 (0, 0))) ∧ (w'.heap[Bb]? = some (.cells #[.int .i64 0, .string (⟨#[]⟩ : ByteArray), .slice none 0 0, .slice none 0 0] 32 (0, 0))) ∧ (w'.heap[B0]? = some (.cells #[.int .i64 B9, .int .i64 Be, .int .i64 Bf, .int .i64 Bg, .int .i64 Bh, .int .i64 Bi, .int .i64 Bj, .int .i64 Bk, .int .i64 Bd, .int .i64 Bl, .slice B7 B4.length B8, .slice A1 l1.length c1] 47 (0, 0))) ∧ (w'.heap[s_.2.2]? = some (.cells #[.int .i64 0, .string (⟨#[]⟩ : ByteArray), .slice none 0 0, .slice none 0 0] 32 (0, 0))) ∧ (w.heap.size ≤ s_.2.2) ∧ (w.heap.size ≤ s_.2.2) ∧ (B1 ≠ s_.2.2) ∧ (s_.2.2 ≠ B1) ∧ (Bb ≠ s_.2.2) ∧ (s_.2.2 ≠ Bb) ∧ (B0 ≠ s_.2.2) ∧ (s_.2.2 ≠ B0) ∧ (Below w.heap.size w w')) ?_ ?_
       rotate_left
       ·intro E3
        refine join_ (σ := Value × Value) 4 #[true, true, true, true, true, true, true, true, true, true, true, true, true, true, false, false, false, false] (fun s_ => [(28, .int .i64 D5), (32, s_.1), (33, .string Dc), (36, s_.2)]) (fun s_ w' => (ce_ w' B1 0 (.int .i64 B9) ∧ ce_ w' B1 1 (.int .i64 Be) ∧ ce_ w' B1 2 (.int .i64 Bf) ∧ ce_ w' B1 3 (.int .i64 Bg) ∧ ce_ w' B1 4 (.int .i64 Bh) ∧ ce_ w' B1 5 (.int .i64 Bi) ∧ ce_ w' B1 6 (.int .i64 Bj) ∧ ce_ w' B1 7 (.int .i64 Bk) ∧ ce_ w' B1 8 (.int .i64 Bd) ∧ ce_ w' B1 9 (.int .i64 Bl) ∧ ce_ w' B1 10 (.slice B7 B4.length B8) ∧ ce_ w' B0 0 (.int .i64 B9) ∧ ce_ w' B0 1 (.int .i64 Be) ∧ ce_ w' B0 2 (.int .i64 Bf) ∧ ce_ w' B0 3 (.int .i64 Bg) ∧ ce_ w' B0 4 (.int .i64 Bh) ∧ ce_ w' B0 5 (.int .i64 Bi) ∧ ce_ w' B0 6 (.int .i64 Bj) ∧ ce_ w' B0 7 (.int .i64 Bk) ∧ ce_ w' B0 8 (.int .i64 Bd) ∧ ce_ w' B0 9 (.int .i64 Bl) ∧ ce_ w' B0 10 (.slice B7 B4.length B8) ∧ ce_ w' B0 11 (.slice A1 l1.length c1)) ∧ (Kd.R (Kd.int .i64) 3 w' w.heap.size (fun k_ => (w.heap.size ≤ k_)) s_.1 D9) ∧ (Kd.R Kd.string 9 w' w.heap.size (fun k_ => (w.heap.size ≤ k_)) s_.2 D4) ∧ (w'.heap[B1]? = some (.cells #[.int .i64 B9, .int .i64 Be, .int .i64 Bf, .int .i64 Bg, .int .i64 Bh, .int .i64 Bi, .int .i64 Bj, .int .i64 Bk, .int .i64 Bd, .int .i64 Bl, .slice B7 B4.length B8] 24 (0, 0))) ∧ (w'.heap[Bb]? = some (.cells #[.int .i64 0, .string (⟨#[]⟩ : ByteArray), .slice none 0 0, .slice none 0 0] 32 (0, 0))) ∧ (w'.heap[B0]? = some (.cells #[.int .i64 B9, .int .i64 Be, .int .i64 Bf, .int .i64 Bg, .int .i64 Bh, .int .i64 Bi, .int .i64 Bj, .int .i64 Bk, .int .i64 Bd, .int .i64 Bl, .slice B7 B4.length B8, .slice A1 l1.length c1] 47 (0, 0))) ∧ (Below w.heap.size w w')) ?_ ?_
        rotate_left
        ·intro Fb
         refine join_ (σ := Value × Value) 4 #[true, true, true, true, true, true, true, true, true, true, true, false, true, true, true, false, false, false] (fun s_ => [(28, .int .i64 D5), (32, s_.1), (33, .string Dc), (39, s_.2)]) (fun s_ w' => (ce_ w' B1 0 (.int .i64 B9) ∧ ce_ w' B1 1 (.int .i64 Be) ∧ ce_ w' B1 2 (.int .i64 Bf) ∧ ce_ w' B1 3 (.int .i64 Bg) ∧ ce_ w' B1 4 (.int .i64 Bh) ∧ ce_ w' B1 5 (.int .i64 Bi) ∧ ce_ w' B1 6 (.int .i64 Bj) ∧ ce_ w' B1 7 (.int .i64 Bk) ∧ ce_ w' B1 8 (.int .i64 Bd) ∧ ce_ w' B1 9 (.int .i64 Bl) ∧ ce_ w' B1 10 (.slice B7 B4.length B8) ∧ ce_ w' B0 0 (.int .i64 B9) ∧ ce_ w' B0 1 (.int .i64 Be) ∧ ce_ w' B0 2 (.int .i64 Bf) ∧ ce_ w' B0 3 (.int .i64 Bg) ∧ ce_ w' B0 4 (.int .i64 Bh) ∧ ce_ w' B0 5 (.int .i64 Bi) ∧ ce_ w' B0 6 (.int .i64 Bj) ∧ ce_ w' B0 7 (.int .i64 Bk) ∧ ce_ w' B0 8 (.int .i64 Bd) ∧ ce_ w' B0 9 (.int .i64 Bl) ∧ ce_ w' B0 10 (.slice B7 B4.length B8) ∧ ce_ w' B0 11 (.slice A1 l1.length c1)) ∧ (Kd.R (Kd.int .i64) 3 w' w.heap.size (fun k_ => (w.heap.size ≤ k_)) s_.1 D9) ∧ (Kd.N (Kd.slice 45 k45) 42 w' w.heap.size (fun k_ => (w.heap.size ≤ k_) ∧ some k_ ≠ (s_.1 : Value).ownBlock ∧ k_ ≠ B1 ∧ k_ ≠ Bb ∧ k_ ≠ B0) s_.2 y413) ∧ (w'.heap[B1]? = some (.cells #[.int .i64 B9, .int .i64 Be, .int .i64 Bf, .int .i64 Bg, .int .i64 Bh, .int .i64 Bi, .int .i64 Bj, .int .i64 Bk, .int .i64 Bd, .int .i64 Bl, .slice B7 B4.length B8] 24 (0, 0))) ∧ (w'.heap[Bb]? = some (.cells #[.int .i64 0, .string (⟨#[]⟩ : ByteArray), .slice none 0 0, .slice none 0 0] 32 (0, 0))) ∧ (w'.heap[B0]? = some (.cells #[.int .i64 B9, .int .i64 Be, .int .i64 Bf, .int .i64 Bg, .int .i64 Bh, .int .i64 Bi, .int .i64 Bj, .int .i64 Bk, .int .i64 Bd, .int .i64 Bl, .slice B7 B4.length B8, .slice A1 l1.length c1] 47 (0, 0))) ∧ (Below w.heap.size w w')) ?_ ?_
         rotate_left
         ·intro Eu
          refine join_ (σ := Value × Nat) 4 #[true, true, true, true, true, true, true, true, true, true, true, false, true, true, false, false, true, false] (fun s_ => [(28, .int .i64 D5), (32, s_.1), (33, .string Dc), (14, .pointer (some ⟨s_.2, 0, none⟩))]) (fun s_ w' => (ce_ w' B1 0 (.int .i64 B9) ∧ ce_ w' B1 1 (.int .i64 Be) ∧ ce_ w' B1 2 (.int .i64 Bf) ∧ ce_ w' B1 3 (.int .i64 Bg) ∧ ce_ w' B1 4 (.int .i64 Bh) ∧ ce_ w' B1 5 (.int .i64 Bi) ∧ ce_ w' B1 6 (.int .i64 Bj) ∧ ce_ w' B1 7 (.int .i64 Bk) ∧ ce_ w' B1 8 (.int .i64 Bd) ∧ ce_ w' B1 9 (.int .i64 Bl) ∧ ce_ w' B1 10 (.slice B7 B4.length B8) ∧ ce_ w' B0 0 (.int .i64 B9) ∧ ce_ w' B0 1 (.int .i64 Be) ∧ ce_ w' B0 2 (.int .i64 Bf) ∧ ce_ w' B0 3 (.int .i64 Bg) ∧ ce_ w' B0 4 (.int .i64 Bh) ∧ ce_ w' B0 5 (.int .i64 Bi) ∧ ce_ w' B0 6 (.int .i64 Bj) ∧ ce_ w' B0 7 (.int .i64 Bk) ∧ ce_ w' B0 8 (.int .i64 Bd) ∧ ce_ w' B0 9 (.int .i64 Bl) ∧ ce_ w' B0 10 (.slice B7 B4.length B8) ∧ ce_ w' B0 11 (.slice A1 l1.length c1)) ∧ (Kd.R (Kd.int .i64) 3 w' w.heap.size (fun k_ => (w.heap.size ≤ k_)) s_.1 D9) ∧ (w'.heap[B1]? = some (.cells #[.int .i64 B9, .int .i64 Be, .int .i64 Bf, .int .i64 Bg, .int .i64 Bh, .int .i64 Bi, .int .i64 Bj, .int .i64 Bk, .int .i64 Bd, .int .i64 Bl, .slice B7 B4.length B8] 24 (0, 0))) ∧ (w'.heap[Bb]? = some (.cells #[.int .i64 0, .string (⟨#[]⟩ : ByteArray), .slice none 0 0, .slice none 0 0] 32 (0, 0))) ∧ (w'.heap[B0]? = some (.cells #[.int .i64 B9, .int .i64 Be, .int .i64 Bf, .int .i64 Bg, .int .i64 Bh, .int .i64 Bi, .int .i64 Bj, .int .i64 Bk, .int .i64 Bd, .int .i64 Bl, .slice B7 B4.length B8, .slice A1 l1.length c1] 47 (0, 0))) ∧ (w'.heap[s_.2]? = some (.cells #[.int .i64 0, .string (⟨#[]⟩ : ByteArray), .slice none 0 0, .slice none 0 0] 32 (0, 0))) ∧ (w.heap.size ≤ s_.2) ∧ (w.heap.size ≤ s_.2) ∧ (B1 ≠ s_.2) ∧ (s_.2 ≠ B1) ∧ (Bb ≠ s_.2) ∧ (s_.2 ≠ Bb) ∧ (B0 ≠ s_.2) ∧ (s_.2 ≠ B0) ∧ (Below w.heap.size w w')) ?_ ?_
          rotate_left
          ·intro Ev
           refine join_ (σ := Value × Value × Nat) 4 #[true, true, true, true, true, true, true, true, false, true, true, false, true, true, true, false, true, false] (fun s_ => [(28, .int .i64 D5), (32, s_.1), (39, s_.2.1), (14, .pointer (some ⟨s_.2.2, 0, none⟩))]) (fun s_ w' => (ce_ w' B1 0 (.int .i64 B9) ∧ ce_ w' B1 1 (.int .i64 Be) ∧ ce_ w' B1 2 (.int .i64 Bf) ∧ ce_ w' B1 3 (.int .i64 Bg) ∧ ce_ w' B1 4 (.int .i64 Bh) ∧ ce_ w' B1 5 (.int .i64 Bi) ∧ ce_ w' B1 6 (.int .i64 Bj) ∧ ce_ w' B1 7 (.int .i64 Bk) ∧ ce_ w' B1 8 (.int .i64 Bd) ∧ ce_ w' B1 9 (.int .i64 Bl) ∧ ce_ w' B1 10 (.slice B7 B4.length B8) ∧ ce_ w' B0 0 (.int .i64 B9) ∧ ce_ w' B0 1 (.int .i64 Be) ∧ ce_ w' B0 2 (.int .i64 Bf) ∧ ce_ w' B0 3 (.int .i64 Bg) ∧ ce_ w' B0 4 (.int .i64 Bh) ∧ ce_ w' B0 5 (.int .i64 Bi) ∧ ce_ w' B0 6 (.int .i64 Bj) ∧ ce_ w' B0 7 (.int .i64 Bk) ∧ ce_ w' B0 8 (.int .i64 Bd) ∧ ce_ w' B0 9 (.int .i64 Bl) ∧ ce_ w' B0 10 (.slice B7 B4.length B8) ∧ ce_ w' B0 11 (.slice A1 l1.length c1)) ∧ (Kd.R (Kd.int .i64) 3 w' w.heap.size (fun k_ => (w.heap.size ≤ k_)) s_.1 D9) ∧ (Kd.N (Kd.slice 45 k45) 42 w' w.heap.size (fun k_ => (w.heap.size ≤ k_) ∧ some k_ ≠ (s_.1 : Value).ownBlock ∧ k_ ≠ B1 ∧ k_ ≠ Bb ∧ k_ ≠ B0 ∧ k_ ≠ s_.2.2) s_.2.1 y413) ∧ (w'.heap[B1]? = some (.cells #[.int .i64 B9, .int .i64 Be, .int .i64 Bf, .int .i64 Bg, .int .i64 Bh, .int .i64 Bi, .int .i64 Bj, .int .i64 Bk, .int .i64 Bd, .int .i64 Bl, .slice B7 B4.length B8] 24 (0, 0))) ∧ (w'.heap[Bb]? = some (.cells #[.int .i64 0, .string (⟨#[]⟩ : ByteArray), .slice none 0 0, .slice none 0 0] 32 (0, 0))) ∧ (w'.heap[B0]? = some (.cells #[.int .i64 B9, .int .i64 Be, .int .i64 Bf, .int .i64 Bg, .int .i64 Bh, .int .i64 Bi, .int .i64 Bj, .int .i64 Bk, .int .i64 Bd, .int .i64 Bl, .slice B7 B4.length B8, .slice A1 l1.length c1] 47 (0, 0))) ∧ (w'.heap[s_.2.2]? = some (.cells #[.int .i64 0, .string (⟨#[]⟩ : ByteArray), .slice none 0 0, .slice none 0 0] 32 (0, 0))) ∧ (w.heap.size ≤ s_.2.2) ∧ (w.heap.size ≤ s_.2.2) ∧ (B1 ≠ s_.2.2) ∧ (s_.2.2 ≠ B1) ∧ (Bb ≠ s_.2.2) ∧ (s_.2.2 ≠ Bb) ∧ (B0 ≠ s_.2.2) ∧ (s_.2.2 ≠ B0) ∧ (Below w.heap.size w w')) ?_ ?_
           rotate_left
           ·intro Eb
            refine join_ (σ := Value) 5 #[true, true, true, true, true, true, true, true, true, true, true, false, true, true, false, false, false, false] (fun s_ => [(28, .int .i64 D5), (32, s_), (33, .string Dc)]) (fun s_ w' => (ce_ w' B1 0 (.int .i64 B9) ∧ ce_ w' B1 1 (.int .i64 Be) ∧ ce_ w' B1 2 (.int .i64 Bf) ∧ ce_ w' B1 3 (.int .i64 Bg) ∧ ce_ w' B1 4 (.int .i64 Bh) ∧ ce_ w' B1 5 (.int .i64 Bi) ∧ ce_ w' B1 6 (.int .i64 Bj) ∧ ce_ w' B1 7 (.int .i64 Bk) ∧ ce_ w' B1 8 (.int .i64 Bd) ∧ ce_ w' B1 9 (.int .i64 Bl) ∧ ce_ w' B1 10 (.slice B7 B4.length B8) ∧ ce_ w' B0 0 (.int .i64 B9) ∧ ce_ w' B0 1 (.int .i64 Be) ∧ ce_ w' B0 2 (.int .i64 Bf) ∧ ce_ w' B0 3 (.int .i64 Bg) ∧ ce_ w' B0 4 (.int .i64 Bh) ∧ ce_ w' B0 5 (.int .i64 Bi) ∧ ce_ w' B0 6 (.int .i64 Bj) ∧ ce_ w' B0 7 (.int .i64 Bk) ∧ ce_ w' B0 8 (.int .i64 Bd) ∧ ce_ w' B0 9 (.int .i64 Bl) ∧ ce_ w' B0 10 (.slice B7 B4.length B8) ∧ ce_ w' B0 11 (.slice A1 l1.length c1)) ∧ (Kd.R (Kd.int .i64) 3 w' w.heap.size (fun k_ => (w.heap.size ≤ k_)) s_ D9) ∧ (w'.heap[B1]? = some (.cells #[.int .i64 B9, .int .i64 Be, .int .i64 Bf, .int .i64 Bg, .int .i64 Bh, .int .i64 Bi, .int .i64 Bj, .int .i64 Bk, .int .i64 Bd, .int .i64 Bl, .slice B7 B4.length B8] 24 (0, 0))) ∧ (w'.heap[Bb]? = some (.cells #[.int .i64 0, .string (⟨#[]⟩ : ByteArray), .slice none 0 0, .slice none 0 0] 32 (0, 0))) ∧ (w'.heap[B0]? = some (.cells #[.int .i64 B9, .int .i64 Be, .int .i64 Bf, .int .i64 Bg, .int .i64 Bh, .int .i64 Bi, .int .i64 Bj, .int .i64 Bk, .int .i64 Bd, .int .i64 Bl, .slice B7 B4.length B8, .slice A1 l1.length c1] 47 (0, 0))) ∧ (Below w.heap.size w w')) ?_ ?_
            rotate_left
            ·intro Gb
             refine join_ (σ := Value × Value) 5 #[true, true, true, true, true, true, true, true, false, true, true, false, true, true, true, false, false, false] (fun s_ => [(28, .int .i64 D5), (32, s_.1), (39, s_.2)]) (fun s_ w' => (ce_ w' B1 0 (.int .i64 B9) ∧ ce_ w' B1 1 (.int .i64 Be) ∧ ce_ w' B1 2 (.int .i64 Bf) ∧ ce_ w' B1 3 (.int .i64 Bg) ∧ ce_ w' B1 4 (.int .i64 Bh) ∧ ce_ w' B1 5 (.int .i64 Bi) ∧ ce_ w' B1 6 (.int .i64 Bj) ∧ ce_ w' B1 7 (.int .i64 Bk) ∧ ce_ w' B1 8 (.int .i64 Bd) ∧ ce_ w' B1 9 (.int .i64 Bl) ∧ ce_ w' B1 10 (.slice B7 B4.length B8) ∧ ce_ w' B0 0 (.int .i64 B9) ∧ ce_ w' B0 1 (.int .i64 Be) ∧ ce_ w' B0 2 (.int .i64 Bf) ∧ ce_ w' B0 3 (.int .i64 Bg) ∧ ce_ w' B0 4 (.int .i64 Bh) ∧ ce_ w' B0 5 (.int .i64 Bi) ∧ ce_ w' B0 6 (.int .i64 Bj) ∧ ce_ w' B0 7 (.int .i64 Bk) ∧ ce_ w' B0 8 (.int .i64 Bd) ∧ ce_ w' B0 9 (.int .i64 Bl) ∧ ce_ w' B0 10 (.slice B7 B4.length B8) ∧ ce_ w' B0 11 (.slice A1 l1.length c1)) ∧ (Kd.R (Kd.int .i64) 3 w' w.heap.size (fun k_ => (w.heap.size ≤ k_)) s_.1 D9) ∧ (Kd.N (Kd.slice 45 k45) 42 w' w.heap.size (fun k_ => (w.heap.size ≤ k_) ∧ some k_ ≠ (s_.1 : Value).ownBlock ∧ k_ ≠ B1 ∧ k_ ≠ Bb ∧ k_ ≠ B0) s_.2 y413) ∧ (w'.heap[B1]? = some (.cells #[.int .i64 B9, .int .i64 Be, .int .i64 Bf, .int .i64 Bg, .int .i64 Bh, .int .i64 Bi, .int .i64 Bj, .int .i64 Bk, .int .i64 Bd, .int .i64 Bl, .slice B7 B4.length B8] 24 (0, 0))) ∧ (w'.heap[Bb]? = some (.cells #[.int .i64 0, .string (⟨#[]⟩ : ByteArray), .slice none 0 0, .slice none 0 0] 32 (0, 0))) ∧ (w'.heap[B0]? = some (.cells #[.int .i64 B9, .int .i64 Be, .int .i64 Bf, .int .i64 Bg, .int .i64 Bh, .int .i64 Bi, .int .i64 Bj, .int .i64 Bk, .int .i64 Bd, .int .i64 Bl, .slice B7 B4.length B8, .slice A1 l1.length c1] 47 (0, 0))) ∧ (Below w.heap.size w w')) ?_ ?_
             rotate_left
             ·intro F6
              refine join_ (σ := Value × Nat) 5 #[true, true, true, true, true, true, true, true, false, true, true, false, true, true, false, false, true, false] (fun s_ => [(28, .int .i64 D5), (32, s_.1), (14, .pointer (some ⟨s_.2, 0, none⟩))]) (fun s_ w' => (ce_ w' B1 0 (.int .i64 B9) ∧ ce_ w' B1 1 (.int .i64 Be) ∧ ce_ w' B1 2 (.int .i64 Bf) ∧ ce_ w' B1 3 (.int .i64 Bg) ∧ ce_ w' B1 4 (.int .i64 Bh) ∧ ce_ w' B1 5 (.int .i64 Bi) ∧ ce_ w' B1 6 (.int .i64 Bj) ∧ ce_ w' B1 7 (.int .i64 Bk) ∧ ce_ w' B1 8 (.int .i64 Bd) ∧ ce_ w' B1 9 (.int .i64 Bl) ∧ ce_ w' B1 10 (.slice B7 B4.length B8) ∧ ce_ w' B0 0 (.int .i64 B9) ∧ ce_ w' B0 1 (.int .i64 Be) ∧ ce_ w' B0 2 (.int .i64 Bf) ∧ ce_ w' B0 3 (.int .i64 Bg) ∧ ce_ w' B0 4 (.int .i64 Bh) ∧ ce_ w' B0 5 (.int .i64 Bi) ∧ ce_ w' B0 6 (.int .i64 Bj) ∧ ce_ w' B0 7 (.int .i64 Bk) ∧ ce_ w' B0 8 (.int .i64 Bd) ∧ ce_ w' B0 9 (.int .i64 Bl) ∧ ce_ w' B0 10 (.slice B7 B4.length B8) ∧ ce_ w' B0 11 (.slice A1 l1.length c1)) ∧ (Kd.R (Kd.int .i64) 3 w' w.heap.size (fun k_ => (w.heap.size ≤ k_)) s_.1 D9) ∧ (w'.heap[B1]? = some (.cells #[.int .i64 B9, .int .i64 Be, .int .i64 Bf, .int .i64 Bg, .int .i64 Bh, .int .i64 Bi, .int .i64 Bj, .int .i64 Bk, .int .i64 Bd, .int .i64 Bl, .slice B7 B4.length B8] 24 (0, 0))) ∧ (w'.heap[Bb]? = some (.cells #[.int .i64 0, .string (⟨#[]⟩ : ByteArray), .slice none 0 0, .slice none 0 0] 32 (0, 0))) ∧ (w'.heap[B0]? = some (.cells #[.int .i64 B9, .int .i64 Be, .int .i64 Bf, .int .i64 Bg, .int .i64 Bh, .int .i64 Bi, .int .i64 Bj, .int .i64 Bk, .int .i64 Bd, .int .i64 Bl, .slice B7 B4.length B8, .slice A1 l1.length c1] 47 (0, 0))) ∧ (w'.heap[s_.2]? = some (.cells #[.int .i64 0, .string (⟨#[]⟩ : ByteArray), .slice none 0 0, .slice none 0 0] 32 (0, 0))) ∧ (w.heap.size ≤ s_.2) ∧ (w.heap.size ≤ s_.2) ∧ (B1 ≠ s_.2) ∧ (s_.2 ≠ B1) ∧ (Bb ≠ s_.2) ∧ (s_.2 ≠ Bb) ∧ (B0 ≠ s_.2) ∧ (s_.2 ≠ B0) ∧ (Below w.heap.size w w')) ?_ ?_
              rotate_left
              ·intro F7
               refine join_ (σ := Value × Nat) 5 #[true, true, true, true, true, true, true, false, false, true, true, false, true, true, true, false, true, false] (fun s_ => [(28, .int .i64 D5), (39, s_.1), (14, .pointer (some ⟨s_.2, 0, none⟩))]) (fun s_ w' => (ce_ w' B1 0 (.int .i64 B9) ∧ ce_ w' B1 1 (.int .i64 Be) ∧ ce_ w' B1 2 (.int .i64 Bf) ∧ ce_ w' B1 3 (.int .i64 Bg) ∧ ce_ w' B1 4 (.int .i64 Bh) ∧ ce_ w' B1 5 (.int .i64 Bi) ∧ ce_ w' B1 6 (.int .i64 Bj) ∧ ce_ w' B1 7 (.int .i64 Bk) ∧ ce_ w' B1 8 (.int .i64 Bd) ∧ ce_ w' B1 9 (.int .i64 Bl) ∧ ce_ w' B1 10 (.slice B7 B4.length B8) ∧ ce_ w' B0 0 (.int .i64 B9) ∧ ce_ w' B0 1 (.int .i64 Be) ∧ ce_ w' B0 2 (.int .i64 Bf) ∧ ce_ w' B0 3 (.int .i64 Bg) ∧ ce_ w' B0 4 (.int .i64 Bh) ∧ ce_ w' B0 5 (.int .i64 Bi) ∧ ce_ w' B0 6 (.int .i64 Bj) ∧ ce_ w' B0 7 (.int .i64 Bk) ∧ ce_ w' B0 8 (.int .i64 Bd) ∧ ce_ w' B0 9 (.int .i64 Bl) ∧ ce_ w' B0 10 (.slice B7 B4.length B8) ∧ ce_ w' B0 11 (.slice A1 l1.length c1)) ∧ (Kd.N (Kd.slice 45 k45) 42 w' w.heap.size (fun k_ => (w.heap.size ≤ k_) ∧ k_ ≠ B1 ∧ k_ ≠ Bb ∧ k_ ≠ B0 ∧ k_ ≠ s_.2) s_.1 y413) ∧ (w'.heap[B1]? = some (.cells #[.int .i64 B9, .int .i64 Be, .int .i64 Bf, .int .i64 Bg, .int .i64 Bh, .int .i64 Bi, .int .i64 Bj, .int .i64 Bk, .int .i64 Bd, .int .i64 Bl, .slice B7 B4.length B8] 24 (0, 0))) ∧ (w'.heap[Bb]? = some (.cells #[.int .i64 0, .string (⟨#[]⟩ : ByteArray), .slice none 0 0, .slice none 0 0] 32 (0, 0))) ∧ (w'.heap[B0]? = some (.cells #[.int .i64 B9, .int .i64 Be, .int .i64 Bf, .int .i64 Bg, .int .i64 Bh, .int .i64 Bi, .int .i64 Bj, .int .i64 Bk, .int .i64 Bd, .int .i64 Bl, .slice B7 B4.length B8, .slice A1 l1.length c1] 47 (0, 0))) ∧ (w'.heap[s_.2]? = some (.cells #[.int .i64 0, .string (⟨#[]⟩ : ByteArray), .slice none 0 0, .slice none 0 0] 32 (0, 0))) ∧ (w.heap.size ≤ s_.2) ∧ (w.heap.size ≤ s_.2) ∧ (B1 ≠ s_.2) ∧ (s_.2 ≠ B1) ∧ (Bb ≠ s_.2) ∧ (s_.2 ≠ Bb) ∧ (B0 ≠ s_.2) ∧ (s_.2 ≠ B0) ∧ (Below w.heap.size w w')) ?_ ?_
               rotate_left
               ·intro Es
                refine join_ (σ := Value) 6 #[true, true, true, true, true, true, true, true, false, true, true, false, true, true, false, false, false, false] (fun s_ => [(28, .int .i64 D5), (32, s_)]) (fun s_ w' => (ce_ w' B1 0 (.int .i64 B9) ∧ ce_ w' B1 1 (.int .i64 Be) ∧ ce_ w' B1 2 (.int .i64 Bf) ∧ ce_ w' B1 3 (.int .i64 Bg) ∧ ce_ w' B1 4 (.int .i64 Bh) ∧ ce_ w' B1 5 (.int .i64 Bi) ∧ ce_ w' B1 6 (.int .i64 Bj) ∧ ce_ w' B1 7 (.int .i64 Bk) ∧ ce_ w' B1 8 (.int .i64 Bd) ∧ ce_ w' B1 9 (.int .i64 Bl) ∧ ce_ w' B1 10 (.slice B7 B4.length B8) ∧ ce_ w' B0 0 (.int .i64 B9) ∧ ce_ w' B0 1 (.int .i64 Be) ∧ ce_ w' B0 2 (.int .i64 Bf) ∧ ce_ w' B0 3 (.int .i64 Bg) ∧ ce_ w' B0 4 (.int .i64 Bh) ∧ ce_ w' B0 5 (.int .i64 Bi) ∧ ce_ w' B0 6 (.int .i64 Bj) ∧ ce_ w' B0 7 (.int .i64 Bk) ∧ ce_ w' B0 8 (.int .i64 Bd) ∧ ce_ w' B0 9 (.int .i64 Bl) ∧ ce_ w' B0 10 (.slice B7 B4.length B8) ∧ ce_ w' B0 11 (.slice A1 l1.length c1)) ∧ (Kd.R (Kd.int .i64) 3 w' w.heap.size (fun k_ => (w.heap.size ≤ k_)) s_ D9) ∧ (w'.heap[B1]? = some (.cells #[.int .i64 B9, .int .i64 Be, .int .i64 Bf, .int .i64 Bg, .int .i64 Bh, .int .i64 Bi, .int .i64 Bj, .int .i64 Bk, .int .i64 Bd, .int .i64 Bl, .slice B7 B4.length B8] 24 (0, 0))) ∧ (w'.heap[Bb]? = some (.cells #[.int .i64 0, .string (⟨#[]⟩ : ByteArray), .slice none 0 0, .slice none 0 0] 32 (0, 0))) ∧ (w'.heap[B0]? = some (.cells #[.int .i64 B9, .int .i64 Be, .int .i64 Bf, .int .i64 Bg, .int .i64 Bh, .int .i64 Bi, .int .i64 Bj, .int .i64 Bk, .int .i64 Bd, .int .i64 Bl, .slice B7 B4.length B8, .slice A1 l1.length c1] 47 (0, 0))) ∧ (Below w.heap.size w w')) ?_ ?_
                rotate_left
                ·intro Jk
                 refine join_ (σ := Value) 6 #[true, true, true, true, true, true, true, false, false, true, true, false, true, true, true, false, false, false] (fun s_ => [(28, .int .i64 D5), (39, s_)]) (fun s_ w' => (ce_ w' B1 0 (.int .i64 B9) ∧ ce_ w' B1 1 (.int .i64 Be) ∧ ce_ w' B1 2 (.int .i64 Bf) ∧ ce_ w' B1 3 (.int .i64 Bg) ∧ ce_ w' B1 4 (.int .i64 Bh) ∧ ce_ w' B1 5 (.int .i64 Bi) ∧ ce_ w' B1 6 (.int .i64 Bj) ∧ ce_ w' B1 7 (.int .i64 Bk) ∧ ce_ w' B1 8 (.int .i64 Bd) ∧ ce_ w' B1 9 (.int .i64 Bl) ∧ ce_ w' B1 10 (.slice B7 B4.length B8) ∧ ce_ w' B0 0 (.int .i64 B9) ∧ ce_ w' B0 1 (.int .i64 Be) ∧ ce_ w' B0 2 (.int .i64 Bf) ∧ ce_ w' B0 3 (.int .i64 Bg) ∧ ce_ w' B0 4 (.int .i64 Bh) ∧ ce_ w' B0 5 (.int .i64 Bi) ∧ ce_ w' B0 6 (.int .i64 Bj) ∧ ce_ w' B0 7 (.int .i64 Bk) ∧ ce_ w' B0 8 (.int .i64 Bd) ∧ ce_ w' B0 9 (.int .i64 Bl) ∧ ce_ w' B0 10 (.slice B7 B4.length B8) ∧ ce_ w' B0 11 (.slice A1 l1.length c1)) ∧ (Kd.N (Kd.slice 45 k45) 42 w' w.heap.size (fun k_ => (w.heap.size ≤ k_) ∧ k_ ≠ B1 ∧ k_ ≠ Bb ∧ k_ ≠ B0) s_ y413) ∧ (w'.heap[B1]? = some (.cells #[.int .i64 B9, .int .i64 Be, .int .i64 Bf, .int .i64 Bg, .int .i64 Bh, .int .i64 Bi, .int .i64 Bj, .int .i64 Bk, .int .i64 Bd, .int .i64 Bl, .slice B7 B4.length B8] 24 (0, 0))) ∧ (w'.heap[Bb]? = some (.cells #[.int .i64 0, .string (⟨#[]⟩ : ByteArray), .slice none 0 0, .slice none 0 0] 32 (0, 0))) ∧ (w'.heap[B0]? = some (.cells #[.int .i64 B9, .int .i64 Be, .int .i64 Bf, .int .i64 Bg, .int .i64 Bh, .int .i64 Bi, .int .i64 Bj, .int .i64 Bk, .int .i64 Bd, .int .i64 Bl, .slice B7 B4.length B8, .slice A1 l1.length c1] 47 (0, 0))) ∧ (Below w.heap.size w w')) ?_ ?_
                 rotate_left
                 ·intro Fx
                  refine join_ (σ := Nat) 6 #[true, true, true, true, true, true, true, false, false, true, true, false, true, true, false, false, true, false] (fun s_ => [(28, .int .i64 D5), (14, .pointer (some ⟨s_, 0, none⟩))]) (fun s_ w' => (ce_ w' B1 0 (.int .i64 B9) ∧ ce_ w' B1 1 (.int .i64 Be) ∧ ce_ w' B1 2 (.int .i64 Bf) ∧ ce_ w' B1 3 (.int .i64 Bg) ∧ ce_ w' B1 4 (.int .i64 Bh) ∧ ce_ w' B1 5 (.int .i64 Bi) ∧ ce_ w' B1 6 (.int .i64 Bj) ∧ ce_ w' B1 7 (.int .i64 Bk) ∧ ce_ w' B1 8 (.int .i64 Bd) ∧ ce_ w' B1 9 (.int .i64 Bl) ∧ ce_ w' B1 10 (.slice B7 B4.length B8) ∧ ce_ w' B0 0 (.int .i64 B9) ∧ ce_ w' B0 1 (.int .i64 Be) ∧ ce_ w' B0 2 (.int .i64 Bf) ∧ ce_ w' B0 3 (.int .i64 Bg) ∧ ce_ w' B0 4 (.int .i64 Bh) ∧ ce_ w' B0 5 (.int .i64 Bi) ∧ ce_ w' B0 6 (.int .i64 Bj) ∧ ce_ w' B0 7 (.int .i64 Bk) ∧ ce_ w' B0 8 (.int .i64 Bd) ∧ ce_ w' B0 9 (.int .i64 Bl) ∧ ce_ w' B0 10 (.slice B7 B4.length B8) ∧ ce_ w' B0 11 (.slice A1 l1.length c1)) ∧ (w'.heap[B1]? = some (.cells #[.int .i64 B9, .int .i64 Be, .int .i64 Bf, .int .i64 Bg, .int .i64 Bh, .int .i64 Bi, .int .i64 Bj, .int .i64 Bk, .int .i64 Bd, .int .i64 Bl, .slice B7 B4.length B8] 24 (0, 0))) ∧ (w'.heap[Bb]? = some (.cells #[.int .i64 0, .string (⟨#[]⟩ : ByteArray), .slice none 0 0, .slice none 0 0] 32 (0, 0))) ∧ (w'.heap[B0]? = some (.cells #[.int .i64 B9, .int .i64 Be, .int .i64 Bf, .int .i64 Bg, .int .i64 Bh, .int .i64 Bi, .int .i64 Bj, .int .i64 Bk, .int .i64 Bd, .int .i64 Bl, .slice B7 B4.length B8, .slice A1 l1.length c1] 47 (0, 0))) ∧ (w'.heap[s_]? = some (.cells #[.int .i64 0, .string (⟨#[]⟩ : ByteArray), .slice none 0 0, .slice none 0 0] 32 (0, 0))) ∧ (w.heap.size ≤ s_) ∧ (w.heap.size ≤ s_) ∧ (B1 ≠ s_) ∧ (s_ ≠ B1) ∧ (Bb ≠ s_) ∧ (s_ ≠ Bb) ∧ (B0 ≠ s_) ∧ (s_ ≠ B0) ∧ (Below w.heap.size w w')) ?_ ?_
                  rotate_left
                  ·intro Fy
                   refine join_ (σ := Value × Nat) 6 #[true, true, true, false, true, true, true, false, false, true, true, false, true, true, true, false, true, false] (fun s_ => [(39, s_.1), (14, .pointer (some ⟨s_.2, 0, none⟩))]) (fun s_ w' => (ce_ w' B1 0 (.int .i64 B9) ∧ ce_ w' B1 1 (.int .i64 Be) ∧ ce_ w' B1 2 (.int .i64 Bf) ∧ ce_ w' B1 3 (.int .i64 Bg) ∧ ce_ w' B1 4 (.int .i64 Bh) ∧ ce_ w' B1 5 (.int .i64 Bi) ∧ ce_ w' B1 6 (.int .i64 Bj) ∧ ce_ w' B1 7 (.int .i64 Bk) ∧ ce_ w' B1 8 (.int .i64 Bd) ∧ ce_ w' B1 9 (.int .i64 Bl) ∧ ce_ w' B1 10 (.slice B7 B4.length B8) ∧ ce_ w' B0 0 (.int .i64 B9) ∧ ce_ w' B0 1 (.int .i64 Be) ∧ ce_ w' B0 2 (.int .i64 Bf) ∧ ce_ w' B0 3 (.int .i64 Bg) ∧ ce_ w' B0 4 (.int .i64 Bh) ∧ ce_ w' B0 5 (.int .i64 Bi) ∧ ce_ w' B0 6 (.int .i64 Bj) ∧ ce_ w' B0 7 (.int .i64 Bk) ∧ ce_ w' B0 8 (.int .i64 Bd) ∧ ce_ w' B0 9 (.int .i64 Bl) ∧ ce_ w' B0 10 (.slice B7 B4.length B8) ∧ ce_ w' B0 11 (.slice A1 l1.length c1)) ∧ (Kd.N (Kd.slice 45 k45) 42 w' w.heap.size (fun k_ => (w.heap.size ≤ k_) ∧ k_ ≠ B1 ∧ k_ ≠ Bb ∧ k_ ≠ B0 ∧ k_ ≠ s_.2) s_.1 y413) ∧ (w'.heap[B1]? = some (.cells #[.int .i64 B9, .int .i64 Be, .int .i64 Bf, .int .i64 Bg, .int .i64 Bh, .int .i64 Bi, .int .i64 Bj, .int .i64 Bk, .int .i64 Bd, .int .i64 Bl, .slice B7 B4.length B8] 24 (0, 0))) ∧ (w'.heap[Bb]? = some (.cells #[.int .i64 0, .string (⟨#[]⟩ : ByteArray), .slice none 0 0, .slice none 0 0] 32 (0, 0))) ∧ (w'.heap[B0]? = some (.cells #[.int .i64 B9, .int .i64 Be, .int .i64 Bf, .int .i64 Bg, .int .i64 Bh, .int .i64 Bi, .int .i64 Bj, .int .i64 Bk, .int .i64 Bd, .int .i64 Bl, .slice B7 B4.length B8, .slice A1 l1.length c1] 47 (0, 0))) ∧ (w'.heap[s_.2]? = some (.cells #[.int .i64 0, .string (⟨#[]⟩ : ByteArray), .slice none 0 0, .slice none 0 0] 32 (0, 0))) ∧ (w.heap.size ≤ s_.2) ∧ (w.heap.size ≤ s_.2) ∧ (B1 ≠ s_.2) ∧ (s_.2 ≠ B1) ∧ (Bb ≠ s_.2) ∧ (s_.2 ≠ Bb) ∧ (B0 ≠ s_.2) ∧ (s_.2 ≠ B0) ∧ (Below w.heap.size w w')) ?_ ?_
                   rotate_left
                   ·intro Fi
                    refine join_ (σ := Unit) 7 #[true, true, true, true, true, true, true, false, false, true, true, false, true, true, false, false, false, false] (fun s_ => [(28, .int .i64 D5)]) (fun s_ w' => (ce_ w' B1 0 (.int .i64 B9) ∧ ce_ w' B1 1 (.int .i64 Be) ∧ ce_ w' B1 2 (.int .i64 Bf) ∧ ce_ w' B1 3 (.int .i64 Bg) ∧ ce_ w' B1 4 (.int .i64 Bh) ∧ ce_ w' B1 5 (.int .i64 Bi) ∧ ce_ w' B1 6 (.int .i64 Bj) ∧ ce_ w' B1 7 (.int .i64 Bk) ∧ ce_ w' B1 8 (.int .i64 Bd) ∧ ce_ w' B1 9 (.int .i64 Bl) ∧ ce_ w' B1 10 (.slice B7 B4.length B8) ∧ ce_ w' B0 0 (.int .i64 B9) ∧ ce_ w' B0 1 (.int .i64 Be) ∧ ce_ w' B0 2 (.int .i64 Bf) ∧ ce_ w' B0 3 (.int .i64 Bg) ∧ ce_ w' B0 4 (.int .i64 Bh) ∧ ce_ w' B0 5 (.int .i64 Bi) ∧ ce_ w' B0 6 (.int .i64 Bj) ∧ ce_ w' B0 7 (.int .i64 Bk) ∧ ce_ w' B0 8 (.int .i64 Bd) ∧ ce_ w' B0 9 (.int .i64 Bl) ∧ ce_ w' B0 10 (.slice B7 B4.length B8) ∧ ce_ w' B0 11 (.slice A1 l1.length c1)) ∧ (w'.heap[B1]? = some (.cells #[.int .i64 B9, .int .i64 Be, .int .i64 Bf, .int .i64 Bg, .int .i64 Bh, .int .i64 Bi, .int .i64 Bj, .int .i64 Bk, .int .i64 Bd, .int .i64 Bl, .slice B7 B4.length B8] 24 (0, 0))) ∧ (w'.heap[Bb]? = some (.cells #[.int .i64 0, .string (⟨#[]⟩ : ByteArray), .slice none 0 0, .slice none 0 0] 32 (0, 0))) ∧ (w'.heap[B0]? = some (.cells #[.int .i64 B9, .int .i64 Be, .int .i64 Bf, .int .i64 Bg, .int .i64 Bh, .int .i64 Bi, .int .i64 Bj, .int .i64 Bk, .int .i64 Bd, .int .i64 Bl, .slice B7 B4.length B8, .slice A1 l1.length c1] 47 (0, 0))) ∧ (Below w.heap.size w w')) ?_ ?_
                    rotate_left
                    ·intro Vs
                     refine join_ (σ := Value) 7 #[true, true, true, false, true, true, true, false, false, true, true, false, true, true, true, false, false, false] (fun s_ => [(39, s_)]) (fun s_ w' => (ce_ w' B1 0 (.int .i64 B9) ∧ ce_ w' B1 1 (.int .i64 Be) ∧ ce_ w' B1 2 (.int .i64 Bf) ∧ ce_ w' B1 3 (.int .i64 Bg) ∧ ce_ w' B1 4 (.int .i64 Bh) ∧ ce_ w' B1 5 (.int .i64 Bi) ∧ ce_ w' B1 6 (.int .i64 Bj) ∧ ce_ w' B1 7 (.int .i64 Bk) ∧ ce_ w' B1 8 (.int .i64 Bd) ∧ ce_ w' B1 9 (.int .i64 Bl) ∧ ce_ w' B1 10 (.slice B7 B4.length B8) ∧ ce_ w' B0 0 (.int .i64 B9) ∧ ce_ w' B0 1 (.int .i64 Be) ∧ ce_ w' B0 2 (.int .i64 Bf) ∧ ce_ w' B0 3 (.int .i64 Bg) ∧ ce_ w' B0 4 (.int .i64 Bh) ∧ ce_ w' B0 5 (.int .i64 Bi) ∧ ce_ w' B0 6 (.int .i64 Bj) ∧ ce_ w' B0 7 (.int .i64 Bk) ∧ ce_ w' B0 8 (.int .i64 Bd) ∧ ce_ w' B0 9 (.int .i64 Bl) ∧ ce_ w' B0 10 (.slice B7 B4.length B8) ∧ ce_ w' B0 11 (.slice A1 l1.length c1)) ∧ (Kd.N (Kd.slice 45 k45) 42 w' w.heap.size (fun k_ => (w.heap.size ≤ k_) ∧ k_ ≠ B1 ∧ k_ ≠ Bb ∧ k_ ≠ B0) s_ y413) ∧ (w'.heap[B1]? = some (.cells #[.int .i64 B9, .int .i64 Be, .int .i64 Bf, .int .i64 Bg, .int .i64 Bh, .int .i64 Bi, .int .i64 Bj, .int .i64 Bk, .int .i64 Bd, .int .i64 Bl, .slice B7 B4.length B8] 24 (0, 0))) ∧ (w'.heap[Bb]? = some (.cells #[.int .i64 0, .string (⟨#[]⟩ : ByteArray), .slice none 0 0, .slice none 0 0] 32 (0, 0))) ∧ (w'.heap[B0]? = some (.cells #[.int .i64 B9, .int .i64 Be, .int .i64 Bf, .int .i64 Bg, .int .i64 Bh, .int .i64 Bi, .int .i64 Bj, .int .i64 Bk, .int .i64 Bd, .int .i64 Bl, .slice B7 B4.length B8, .slice A1 l1.length c1] 47 (0, 0))) ∧ (Below w.heap.size w w')) ?_ ?_
                     rotate_left
                     ·intro O3
                      refine join_ (σ := Nat) 7 #[true, true, true, false, true, true, true, false, false, true, true, false, true, true, false, false, true, false] (fun s_ => [(14, .pointer (some ⟨s_, 0, none⟩))]) (fun s_ w' => (ce_ w' B1 0 (.int .i64 B9) ∧ ce_ w' B1 1 (.int .i64 Be) ∧ ce_ w' B1 2 (.int .i64 Bf) ∧ ce_ w' B1 3 (.int .i64 Bg) ∧ ce_ w' B1 4 (.int .i64 Bh) ∧ ce_ w' B1 5 (.int .i64 Bi) ∧ ce_ w' B1 6 (.int .i64 Bj) ∧ ce_ w' B1 7 (.int .i64 Bk) ∧ ce_ w' B1 8 (.int .i64 Bd) ∧ ce_ w' B1 9 (.int .i64 Bl) ∧ ce_ w' B1 10 (.slice B7 B4.length B8) ∧ ce_ w' B0 0 (.int .i64 B9) ∧ ce_ w' B0 1 (.int .i64 Be) ∧ ce_ w' B0 2 (.int .i64 Bf) ∧ ce_ w' B0 3 (.int .i64 Bg) ∧ ce_ w' B0 4 (.int .i64 Bh) ∧ ce_ w' B0 5 (.int .i64 Bi) ∧ ce_ w' B0 6 (.int .i64 Bj) ∧ ce_ w' B0 7 (.int .i64 Bk) ∧ ce_ w' B0 8 (.int .i64 Bd) ∧ ce_ w' B0 9 (.int .i64 Bl) ∧ ce_ w' B0 10 (.slice B7 B4.length B8) ∧ ce_ w' B0 11 (.slice A1 l1.length c1)) ∧ (w'.heap[B1]? = some (.cells #[.int .i64 B9, .int .i64 Be, .int .i64 Bf, .int .i64 Bg, .int .i64 Bh, .int .i64 Bi, .int .i64 Bj, .int .i64 Bk, .int .i64 Bd, .int .i64 Bl, .slice B7 B4.length B8] 24 (0, 0))) ∧ (w'.heap[Bb]? = some (.cells #[.int .i64 0, .string (⟨#[]⟩ : ByteArray), .slice none 0 0, .slice none 0 0] 32 (0, 0))) ∧ (w'.heap[B0]? = some (.cells #[.int .i64 B9, .int .i64 Be, .int .i64 Bf, .int .i64 Bg, .int .i64 Bh, .int .i64 Bi, .int .i64 Bj, .int .i64 Bk, .int .i64 Bd, .int .i64 Bl, .slice B7 B4.length B8, .slice A1 l1.length c1] 47 (0, 0))) ∧ (w'.heap[s_]? = some (.cells #[.int .i64 0, .string (⟨#[]⟩ : ByteArray), .slice none 0 0, .slice none 0 0] 32 (0, 0))) ∧ (w.heap.size ≤ s_) ∧ (w.heap.size ≤ s_) ∧ (B1 ≠ s_) ∧ (s_ ≠ B1) ∧ (Bb ≠ s_) ∧ (s_ ≠ Bb) ∧ (B0 ≠ s_) ∧ (s_ ≠ B0) ∧ (Below w.heap.size w w')) ?_ ?_
                      rotate_left
                      ·intro O4
                       refine three_ (i := 3) (j := 14) (k := 16) (Ni := some 28) (Nj := some 39) (Nk := some 14) #[true, true, true, true, true, true, true, false, false, true, true, false, true, true, false, false, false, false] #[true, true, true, false, true, true, true, false, false, true, true, false, true, true, true, false, false, false] #[true, true, true, false, true, true, true, false, false, true, true, false, true, true, false, false, true, false] rfl rfl rfl rfl rfl rfl (three_of HT_.out (by kernel_rfl)) (by decide) (by decide) (by decide) (fun K hK => ?_) (fun K hK => ?_) (fun K hK => ?_)
                       ·skip
                        refine gos_ Try.func19 (num_Mod.calls a2 Bd _ _ A9.out) ?_
                        rintro e w' ⟨rfl, ⟨nd, rfl⟩⟩
                        refine ⟨_, rfl, ?_⟩
                        refine hK.out _ _ (and_11 B3.out (cells_12 B2.out)) (fun hHeld => ?_)
                        clear hK K
                        refine nor_ 28 ?_
                        exact norm_ (by first | (simp only [putAll, Act.put, zs_]; done) | (simp only [putAll, Act.put, zs_]; rfl)) (Vs () _ ⟨hHeld, (by (with_reducible repeat (first | apply kn_ | apply kd_ | apply ka_)); exact B3.out), (by (with_reducible repeat (first | apply kn_ | apply kd_ | apply ka_)); exact B5.out), (by (with_reducible repeat (first | apply kn_ | apply kd_ | apply ka_)); exact B2.out), (by repeat (first | (with_reducible first | exact HB.out | apply ba_ | apply bn_ | apply bd_ | refine bs_ ?_ D0.out | refine bs_ ?_ D1.out | refine bs_ ?_ D2.out) | exact HB.out))⟩)
                       ·skip
                        refine Kd.N_make_step (Kd.slice 45 k45) _ 42 (by rfl) (N' := 39) rfl 28 _ _ rfl B9 rfl rfl Try.underlying28 (.slice none 0 0) 24 info42 rfl (by decide) (by omega) [] (ok := fun k_ => w24.heap.size ≤ k_) (okp := fun _ => False) (Kd.FK_slice_mk (Nat.le_refl _) (Kd.F_nil _ _ _)) (fun _ hk => hk.elim) (Nat.le_refl _) (of_decide_eq_true (by first | (with_reducible assumption) | assumption)) (Nat.le_trans (Nat.mul_le_mul_right _ (of_decide_eq_true (by first | (with_reducible assumption) | assumption) : B9.toNat ≤ 11728124029610)) (by omega)) (Below.refl _ _) (Nat.le_refl _) ?_
                        intro v414 w25 Fz hb hg_ hnew_
                        clear hg_ hnew_
                        (first | rw [← Dh.out] at Fz | (simp only [Int.reduceToNat] at Fz; rw [← Dh.out] at Fz))
                        have Bt := am_ (Kd.N_lower (Kd.N_mono (ok' := fun k_ => (w.heap.size ≤ k_) ∧ k_ ≠ B1 ∧ k_ ≠ Bb ∧ k_ ≠ B0) Fz (fun k_ hk_ => ⟨(Nat.le_trans (below_size HB.out) hk_), (Kd.freshB (g := B1) (o := .cells #[.int .i64 B9, .int .i64 Be, .int .i64 Bf, .int .i64 Bg, .int .i64 Bh, .int .i64 Bi, .int .i64 Bj, .int .i64 Bk, .int .i64 Bd, .int .i64 Bl, .slice B7 B4.length B8] 24 (0, 0)) (by (with_reducible repeat (first | apply kn_ | apply kd_ | apply ka_)); exact B3.out) k_ hk_), (Kd.freshB (g := Bb) (o := .cells #[.int .i64 0, .string (⟨#[]⟩ : ByteArray), .slice none 0 0, .slice none 0 0] 32 (0, 0)) (by (with_reducible repeat (first | apply kn_ | apply kd_ | apply ka_)); exact B5.out) k_ hk_), (Kd.freshB (g := B0) (o := .cells #[.int .i64 B9, .int .i64 Be, .int .i64 Bf, .int .i64 Bg, .int .i64 Bh, .int .i64 Bi, .int .i64 Bj, .int .i64 Bk, .int .i64 Bd, .int .i64 Bl, .slice B7 B4.length B8, .slice A1 l1.length c1] 47 (0, 0)) (by (with_reducible repeat (first | apply kn_ | apply kd_ | apply ka_)); exact B2.out) k_ hk_)⟩)) (below_size HB.out))
                        replace B3 := bkb_ B3 hb
                        replace B5 := bkb_ B5 hb
                        replace B2 := bkb_ B2 hb
                        replace HB := bst_ HB hb
                        clear hb Fz
                        refine hK.out _ _ (and_11 B3.out (cells_12 B2.out)) (fun hHeld => ?_)
                        clear hK K
                        refine nor_ 39 ?_
                        exact norm_ (by first | (simp only [putAll, Act.put, zs_]; done) | (simp only [putAll, Act.put, zs_]; rfl)) (O3 (v414) _ ⟨hHeld, (by (with_reducible repeat (first | apply Kd.N_alloc | apply Kd.N_drewN | apply Kd.N_drew)); exact Bt.out), (by (with_reducible repeat (first | apply kn_ | apply kd_ | apply ka_)); exact B3.out), (by (with_reducible repeat (first | apply kn_ | apply kd_ | apply ka_)); exact B5.out), (by (with_reducible repeat (first | apply kn_ | apply kd_ | apply ka_)); exact B2.out), (by repeat (first | (with_reducible first | exact HB.out | apply ba_ | apply bn_ | apply bd_ | refine bs_ ?_ D0.out | refine bs_ ?_ D1.out | refine bs_ ?_ D2.out) | exact HB.out))⟩)
                       ·skip
                        refine box_step ?hg (N := 14) ?hd (cs := #[.int .i64 0, .string (⟨#[]⟩ : ByteArray), .slice none 0 0, .slice none 0 0]) (t := 32) ?hr ?_; (case hd => rfl); (case hg => rfl); (case hr => first | (go_simp; done) | (go_simp; rfl))
                        intro B6 hg w25 hbox hb
                        have Bn := am_ (hbox)
                        have Bz := gwk_ HB hg
                        have Bu := Bz
                        replace HB := bst_ HB hb
                        have Bc := nbk_ B3 hg
                        have Bp := nbs_ Bc
                        replace B3 := bkb_ B3 hb
                        have Bm := nbk_ B5 hg
                        have Bq := nbs_ Bm
                        replace B5 := bkb_ B5 hb
                        have Ba := nbk_ B2 hg
                        have Bo := nbs_ Ba
                        replace B2 := bkb_ B2 hb
                        clear hb hbox hg
                        refine hK.out _ _ (and_11 B3.out (cells_12 B2.out)) (fun hHeld => ?_)
                        clear hK K
                        refine nor_ 14 ?_
                        exact norm_ (by first | (simp only [putAll, Act.put, zs_]; done) | (simp only [putAll, Act.put, zs_]; rfl)) (O4 (B6) _ ⟨hHeld, (by (with_reducible repeat (first | apply kn_ | apply kd_ | apply ka_)); exact B3.out), (by (with_reducible repeat (first | apply kn_ | apply kd_ | apply ka_)); exact B5.out), (by (with_reducible repeat (first | apply kn_ | apply kd_ | apply ka_)); exact B2.out), (by (with_reducible repeat (first | apply kn_ | apply kd_ | apply ka_)); exact Bn.out), Bz.out, Bu.out, Bc.out, Bp.out, Bm.out, Bq.out, Ba.out, Bo.out, (by repeat (first | (with_reducible first | exact HB.out | apply ba_ | apply bn_ | apply bd_ | refine bs_ ?_ D0.out | refine bs_ ?_ D1.out | refine bs_ ?_ D2.out | refine bs_ ?_ Bu.out) | exact HB.out))⟩)
                      ·skip
                       rintro B6 w26 ⟨hS_, Dr, Ds, Dt, Du, Dy, E4, Ek, En, Eo, Ep, Di, Dj, Dk⟩
                       have Dd : Aside0 (w26.heap[B1]? = some (.cells #[.int .i64 B9, .int .i64 Be, .int .i64 Bf, .int .i64 Bg, .int .i64 Bh, .int .i64 Bi, .int .i64 Bj, .int .i64 Bk, .int .i64 Bd, .int .i64 Bl, .slice B7 B4.length B8] 24 (0, 0))) := ⟨Dr⟩
                       have De : Aside0 (w26.heap[Bb]? = some (.cells #[.int .i64 0, .string (⟨#[]⟩ : ByteArray), .slice none 0 0, .slice none 0 0] 32 (0, 0))) := ⟨Ds⟩
                       have Df : Aside0 (w26.heap[B0]? = some (.cells #[.int .i64 B9, .int .i64 Be, .int .i64 Bf, .int .i64 Bg, .int .i64 Bh, .int .i64 Bi, .int .i64 Bj, .int .i64 Bk, .int .i64 Bd, .int .i64 Bl, .slice B7 B4.length B8, .slice A1 l1.length c1] 47 (0, 0))) := ⟨Dt⟩
                       have Dg : Aside0 (w26.heap[B6]? = some (.cells #[.int .i64 0, .string (⟨#[]⟩ : ByteArray), .slice none 0 0, .slice none 0 0] 32 (0, 0))) := ⟨Du⟩
                       have Dq : Aside0 (w.heap.size ≤ B6) := ⟨Dy⟩
                       have E2 : Aside0 (w.heap.size ≤ B6) := ⟨E4⟩
                       have Ea : Aside0 (B1 ≠ B6) := ⟨Ek⟩
                       have Eg : Aside0 (B6 ≠ B1) := ⟨En⟩
                       have Eh : Aside0 (Bb ≠ B6) := ⟨Eo⟩
                       have Eq : Aside0 (B6 ≠ Bb) := ⟨Ep⟩
                       have Dl : Aside0 (B0 ≠ B6) := ⟨Di⟩
                       have Dm : Aside0 (B6 ≠ B0) := ⟨Dj⟩
                       have Dn : Aside0 (Below w.heap.size w w26) := ⟨Dk⟩
                       clear B3
                       clear B5
                       clear B2
                       clear HB
                       clear Dr Ds Dt Du Dy E4 Ek En Eo Ep Di Dj Dk
                       have B3 := Dd
                       have B5 := De
                       have B2 := Df
                       have Bn := Dg
                       have Bz := Dq
                       have Bu := E2
                       have Bc := Ea
                       have Bp := Eg
                       have Bm := Eh
                       have Bq := Eq
                       have Ba := Dl
                       have Bo := Dm
                       have HB := Dn
                       clear Dd De Df Dg Dq E2 Ea Eg Eh Eq Dl Dm Dn
                       have hHeld : ce_ w26 B1 0 (.int .i64 B9) ∧ ce_ w26 B1 1 (.int .i64 Be) ∧ ce_ w26 B1 2 (.int .i64 Bf) ∧ ce_ w26 B1 3 (.int .i64 Bg) ∧ ce_ w26 B1 4 (.int .i64 Bh) ∧ ce_ w26 B1 5 (.int .i64 Bi) ∧ ce_ w26 B1 6 (.int .i64 Bj) ∧ ce_ w26 B1 7 (.int .i64 Bk) ∧ ce_ w26 B1 8 (.int .i64 Bd) ∧ ce_ w26 B1 9 (.int .i64 Bl) ∧ ce_ w26 B1 10 (.slice B7 B4.length B8) ∧ ce_ w26 B0 0 (.int .i64 B9) ∧ ce_ w26 B0 1 (.int .i64 Be) ∧ ce_ w26 B0 2 (.int .i64 Bf) ∧ ce_ w26 B0 3 (.int .i64 Bg) ∧ ce_ w26 B0 4 (.int .i64 Bh) ∧ ce_ w26 B0 5 (.int .i64 Bi) ∧ ce_ w26 B0 6 (.int .i64 Bj) ∧ ce_ w26 B0 7 (.int .i64 Bk) ∧ ce_ w26 B0 8 (.int .i64 Bd) ∧ ce_ w26 B0 9 (.int .i64 Bl) ∧ ce_ w26 B0 10 (.slice B7 B4.length B8) ∧ ce_ w26 B0 11 (.slice A1 l1.length c1) := hS_
                       refine norm_ (a' := ?_) ?_ ?_
                       rotate_left
                       ·simp only [putAll, Act.put, zs_]
                        rfl
                       refine two_ (i := 3) (j := 14) (Ni := some 28) (Nj := some 39) #[true, true, true, true, true, true, true, false, false, true, true, false, true, true, false, false, true, false] #[true, true, true, false, true, true, true, false, false, true, true, false, true, true, true, false, true, false] rfl rfl rfl rfl (two_of HT_.out (by kernel_rfl)) (by decide) (by decide) (fun K hK => ?_) (fun K hK => ?_)
                       ·skip
                        refine gos_ Try.func19 (num_Mod.calls a2 Bd _ _ A9.out) ?_
                        rintro e w' ⟨rfl, ⟨nd, rfl⟩⟩
                        refine ⟨_, rfl, ?_⟩
                        refine hK.out _ _ (and_11 B3.out (cells_12 B2.out)) (fun hHeld => ?_)
                        clear hK K
                        refine nor_ 28 ?_
                        exact norm_ (by first | (simp only [putAll, Act.put, zs_]; done) | (simp only [putAll, Act.put, zs_]; rfl)) (Fy (B6) _ ⟨hHeld, (by (with_reducible repeat (first | apply kn_ | apply kd_ | apply ka_)); exact B3.out), (by (with_reducible repeat (first | apply kn_ | apply kd_ | apply ka_)); exact B5.out), (by (with_reducible repeat (first | apply kn_ | apply kd_ | apply ka_)); exact B2.out), (by (with_reducible repeat (first | apply kn_ | apply kd_ | apply ka_)); exact Bn.out), Bz.out, Bu.out, Bc.out, Bp.out, Bm.out, Bq.out, Ba.out, Bo.out, (by repeat (first | (with_reducible first | exact HB.out | apply ba_ | apply bn_ | apply bd_ | refine bs_ ?_ D0.out | refine bs_ ?_ D1.out | refine bs_ ?_ D2.out | refine bs_ ?_ Bu.out) | exact HB.out))⟩)
                       ·skip
                        refine Kd.N_make_step (Kd.slice 45 k45) _ 42 (by rfl) (N' := 39) rfl 28 _ _ rfl B9 rfl rfl Try.underlying28 (.slice none 0 0) 24 info42 rfl (by decide) (by omega) [] (ok := fun k_ => w26.heap.size ≤ k_) (okp := fun _ => False) (Kd.FK_slice_mk (Nat.le_refl _) (Kd.F_nil _ _ _)) (fun _ hk => hk.elim) (Nat.le_refl _) (of_decide_eq_true (by first | (with_reducible assumption) | assumption)) (Nat.le_trans (Nat.mul_le_mul_right _ (of_decide_eq_true (by first | (with_reducible assumption) | assumption) : B9.toNat ≤ 11728124029610)) (by omega)) (Below.refl _ _) (Nat.le_refl _) ?_
                        intro v414 w27 Ec hb hg_ hnew_
                        clear hg_ hnew_
                        (first | rw [← Dh.out] at Ec | (simp only [Int.reduceToNat] at Ec; rw [← Dh.out] at Ec))
                        have Bt := am_ (Kd.N_lower (Kd.N_mono (ok' := fun k_ => (w.heap.size ≤ k_) ∧ k_ ≠ B1 ∧ k_ ≠ Bb ∧ k_ ≠ B0 ∧ k_ ≠ B6) Ec (fun k_ hk_ => ⟨(Nat.le_trans (below_size HB.out) hk_), (Kd.freshB (g := B1) (o := .cells #[.int .i64 B9, .int .i64 Be, .int .i64 Bf, .int .i64 Bg, .int .i64 Bh, .int .i64 Bi, .int .i64 Bj, .int .i64 Bk, .int .i64 Bd, .int .i64 Bl, .slice B7 B4.length B8] 24 (0, 0)) (by (with_reducible repeat (first | apply kn_ | apply kd_ | apply ka_)); exact B3.out) k_ hk_), (Kd.freshB (g := Bb) (o := .cells #[.int .i64 0, .string (⟨#[]⟩ : ByteArray), .slice none 0 0, .slice none 0 0] 32 (0, 0)) (by (with_reducible repeat (first | apply kn_ | apply kd_ | apply ka_)); exact B5.out) k_ hk_), (Kd.freshB (g := B0) (o := .cells #[.int .i64 B9, .int .i64 Be, .int .i64 Bf, .int .i64 Bg, .int .i64 Bh, .int .i64 Bi, .int .i64 Bj, .int .i64 Bk, .int .i64 Bd, .int .i64 Bl, .slice B7 B4.length B8, .slice A1 l1.length c1] 47 (0, 0)) (by (with_reducible repeat (first | apply kn_ | apply kd_ | apply ka_)); exact B2.out) k_ hk_), (Kd.freshB (g := B6) (o := .cells #[.int .i64 0, .string (⟨#[]⟩ : ByteArray), .slice none 0 0, .slice none 0 0] 32 (0, 0)) (by (with_reducible repeat (first | apply kn_ | apply kd_ | apply ka_)); exact Bn.out) k_ hk_)⟩)) (below_size HB.out))
                        replace B3 := bkb_ B3 hb
                        replace B5 := bkb_ B5 hb
                        replace B2 := bkb_ B2 hb
                        replace Bn := bkb_ Bn hb
                        replace HB := bst_ HB hb
                        clear hb Ec
                        refine hK.out _ _ (and_11 B3.out (cells_12 B2.out)) (fun hHeld => ?_)
                        clear hK K
                        refine nor_ 39 ?_
                        exact norm_ (by first | (simp only [putAll, Act.put, zs_]; done) | (simp only [putAll, Act.put, zs_]; rfl)) (Fi (v414, B6) _ ⟨hHeld, (by (with_reducible repeat (first | apply Kd.N_alloc | apply Kd.N_drewN | apply Kd.N_drew)); exact Bt.out), (by (with_reducible repeat (first | apply kn_ | apply kd_ | apply ka_)); exact B3.out), (by (with_reducible repeat (first | apply kn_ | apply kd_ | apply ka_)); exact B5.out), (by (with_reducible repeat (first | apply kn_ | apply kd_ | apply ka_)); exact B2.out), (by (with_reducible repeat (first | apply kn_ | apply kd_ | apply ka_)); exact Bn.out), Bz.out, Bu.out, Bc.out, Bp.out, Bm.out, Bq.out, Ba.out, Bo.out, (by repeat (first | (with_reducible first | exact HB.out | apply ba_ | apply bn_ | apply bd_ | refine bs_ ?_ D0.out | refine bs_ ?_ D1.out | refine bs_ ?_ D2.out | refine bs_ ?_ Bu.out) | exact HB.out))⟩)
                     ·skip
                      rintro v414 w27 ⟨hS_, Dr, Ds, Dt, Du, Dy⟩
                      have Dd : Aside0 (Kd.N (Kd.slice 45 k45) 42 w27 w.heap.size (fun k_ => (w.heap.size ≤ k_) ∧ k_ ≠ B1 ∧ k_ ≠ Bb ∧ k_ ≠ B0) v414 y413) := ⟨Dr⟩
                      have De : Aside0 (w27.heap[B1]? = some (.cells #[.int .i64 B9, .int .i64 Be, .int .i64 Bf, .int .i64 Bg, .int .i64 Bh, .int .i64 Bi, .int .i64 Bj, .int .i64 Bk, .int .i64 Bd, .int .i64 Bl, .slice B7 B4.length B8] 24 (0, 0))) := ⟨Ds⟩
                      have Df : Aside0 (w27.heap[Bb]? = some (.cells #[.int .i64 0, .string (⟨#[]⟩ : ByteArray), .slice none 0 0, .slice none 0 0] 32 (0, 0))) := ⟨Dt⟩
                      have Dg : Aside0 (w27.heap[B0]? = some (.cells #[.int .i64 B9, .int .i64 Be, .int .i64 Bf, .int .i64 Bg, .int .i64 Bh, .int .i64 Bi, .int .i64 Bj, .int .i64 Bk, .int .i64 Bd, .int .i64 Bl, .slice B7 B4.length B8, .slice A1 l1.length c1] 47 (0, 0))) := ⟨Du⟩
                      have Dq : Aside0 (Below w.heap.size w w27) := ⟨Dy⟩
                      clear B3
                      clear B5
                      clear B2
                      clear HB
                      clear Dr Ds Dt Du Dy
                      have Bt := Dd
                      have B3 := De
                      have B5 := Df
                      have B2 := Dg
                      have HB := Dq
                      clear Dd De Df Dg Dq
                      have hHeld : ce_ w27 B1 0 (.int .i64 B9) ∧ ce_ w27 B1 1 (.int .i64 Be) ∧ ce_ w27 B1 2 (.int .i64 Bf) ∧ ce_ w27 B1 3 (.int .i64 Bg) ∧ ce_ w27 B1 4 (.int .i64 Bh) ∧ ce_ w27 B1 5 (.int .i64 Bi) ∧ ce_ w27 B1 6 (.int .i64 Bj) ∧ ce_ w27 B1 7 (.int .i64 Bk) ∧ ce_ w27 B1 8 (.int .i64 Bd) ∧ ce_ w27 B1 9 (.int .i64 Bl) ∧ ce_ w27 B1 10 (.slice B7 B4.length B8) ∧ ce_ w27 B0 0 (.int .i64 B9) ∧ ce_ w27 B0 1 (.int .i64 Be) ∧ ce_ w27 B0 2 (.int .i64 Bf) ∧ ce_ w27 B0 3 (.int .i64 Bg) ∧ ce_ w27 B0 4 (.int .i64 Bh) ∧ ce_ w27 B0 5 (.int .i64 Bi) ∧ ce_ w27 B0 6 (.int .i64 Bj) ∧ ce_ w27 B0 7 (.int .i64 Bk) ∧ ce_ w27 B0 8 (.int .i64 Bd) ∧ ce_ w27 B0 9 (.int .i64 Bl) ∧ ce_ w27 B0 10 (.slice B7 B4.length B8) ∧ ce_ w27 B0 11 (.slice A1 l1.length c1) := hS_
                      refine norm_ (a' := ?_) ?_ ?_
                      rotate_left
                      ·simp only [putAll, Act.put, zs_]
                       rfl
                      refine two_ (i := 3) (j := 16) (Ni := some 28) (Nj := some 14) #[true, true, true, true, true, true, true, false, false, true, true, false, true, true, true, false, false, false] #[true, true, true, false, true, true, true, false, false, true, true, false, true, true, true, false, true, false] rfl rfl rfl rfl (two_of HT_.out (by kernel_rfl)) (by decide) (by decide) (fun K hK => ?_) (fun K hK => ?_)
                      ·skip
                       refine gos_ Try.func19 (num_Mod.calls a2 Bd _ _ A9.out) ?_
                       rintro e w' ⟨rfl, ⟨nd, rfl⟩⟩
                       refine ⟨_, rfl, ?_⟩
                       refine hK.out _ _ (and_11 B3.out (cells_12 B2.out)) (fun hHeld => ?_)
                       clear hK K
                       refine nor_ 28 ?_
                       exact norm_ (by first | (simp only [putAll, Act.put, zs_]; done) | (simp only [putAll, Act.put, zs_]; rfl)) (Fx (v414) _ ⟨hHeld, (by (with_reducible repeat (first | apply Kd.N_alloc | apply Kd.N_drewN | apply Kd.N_drew)); exact Bt.out), (by (with_reducible repeat (first | apply kn_ | apply kd_ | apply ka_)); exact B3.out), (by (with_reducible repeat (first | apply kn_ | apply kd_ | apply ka_)); exact B5.out), (by (with_reducible repeat (first | apply kn_ | apply kd_ | apply ka_)); exact B2.out), (by repeat (first | (with_reducible first | exact HB.out | apply ba_ | apply bn_ | apply bd_ | refine bs_ ?_ D0.out | refine bs_ ?_ D1.out | refine bs_ ?_ D2.out) | exact HB.out))⟩)
                      ·skip
                       refine box_step ?hg (N := 14) ?hd (cs := #[.int .i64 0, .string (⟨#[]⟩ : ByteArray), .slice none 0 0, .slice none 0 0]) (t := 32) ?hr ?_; (case hd => rfl); (case hg => rfl); (case hr => first | (go_simp; done) | (go_simp; rfl))
                       intro B6 hg w28 hbox hb
                       replace Bt := am_ (Kd.N_below (Kd.N_elderB (by (with_reducible repeat (first | apply Kd.N_alloc | apply Kd.N_drewN | apply Kd.N_drew)); exact Bt.out) B6 (Nat.le_of_eq hg.symm)) hb)
                       have Bn := am_ (hbox)
                       have Bz := gwk_ HB hg
                       have Bu := Bz
                       replace HB := bst_ HB hb
                       have Bc := nbk_ B3 hg
                       have Bp := nbs_ Bc
                       replace B3 := bkb_ B3 hb
                       have Bm := nbk_ B5 hg
                       have Bq := nbs_ Bm
                       replace B5 := bkb_ B5 hb
                       have Ba := nbk_ B2 hg
                       have Bo := nbs_ Ba
                       replace B2 := bkb_ B2 hb
                       clear hb hbox hg
                       refine hK.out _ _ (and_11 B3.out (cells_12 B2.out)) (fun hHeld => ?_)
                       clear hK K
                       refine nor_ 14 ?_
                       exact norm_ (by first | (simp only [putAll, Act.put, zs_]; done) | (simp only [putAll, Act.put, zs_]; rfl)) (Fi (v414, B6) _ ⟨hHeld, (by (with_reducible repeat (first | apply Kd.N_alloc | apply Kd.N_drewN | apply Kd.N_drew)); exact Kd.N_mono Bt.out (fun _ hk => ⟨hk.1.1, ⟨hk.1.2.1, ⟨hk.1.2.2.1, ⟨hk.1.2.2.2, hk.2⟩⟩⟩⟩)), (by (with_reducible repeat (first | apply kn_ | apply kd_ | apply ka_)); exact B3.out), (by (with_reducible repeat (first | apply kn_ | apply kd_ | apply ka_)); exact B5.out), (by (with_reducible repeat (first | apply kn_ | apply kd_ | apply ka_)); exact B2.out), (by (with_reducible repeat (first | apply kn_ | apply kd_ | apply ka_)); exact Bn.out), Bz.out, Bu.out, Bc.out, Bp.out, Bm.out, Bq.out, Ba.out, Bo.out, (by repeat (first | (with_reducible first | exact HB.out | apply ba_ | apply bn_ | apply bd_ | refine bs_ ?_ D0.out | refine bs_ ?_ D1.out | refine bs_ ?_ D2.out | refine bs_ ?_ Bu.out) | exact HB.out))⟩)
                    ·skip
                     rintro _ w25 ⟨hS_, Dr, Ds, Dt, Du⟩
                     have Dd : Aside0 (w25.heap[B1]? = some (.cells #[.int .i64 B9, .int .i64 Be, .int .i64 Bf, .int .i64 Bg, .int .i64 Bh, .int .i64 Bi, .int .i64 Bj, .int .i64 Bk, .int .i64 Bd, .int .i64 Bl, .slice B7 B4.length B8] 24 (0, 0))) := ⟨Dr⟩
                     have De : Aside0 (w25.heap[Bb]? = some (.cells #[.int .i64 0, .string (⟨#[]⟩ : ByteArray), .slice none 0 0, .slice none 0 0] 32 (0, 0))) := ⟨Ds⟩
                     have Df : Aside0 (w25.heap[B0]? = some (.cells #[.int .i64 B9, .int .i64 Be, .int .i64 Bf, .int .i64 Bg, .int .i64 Bh, .int .i64 Bi, .int .i64 Bj, .int .i64 Bk, .int .i64 Bd, .int .i64 Bl, .slice B7 B4.length B8, .slice A1 l1.length c1] 47 (0, 0))) := ⟨Dt⟩
                     have Dg : Aside0 (Below w.heap.size w w25) := ⟨Du⟩
                     clear B3
                     clear B5
                     clear B2
                     clear HB
                     clear Dr Ds Dt Du
                     have B3 := Dd
                     have B5 := De
                     have B2 := Df
                     have HB := Dg
                     clear Dd De Df Dg
                     have hHeld : ce_ w25 B1 0 (.int .i64 B9) ∧ ce_ w25 B1 1 (.int .i64 Be) ∧ ce_ w25 B1 2 (.int .i64 Bf) ∧ ce_ w25 B1 3 (.int .i64 Bg) ∧ ce_ w25 B1 4 (.int .i64 Bh) ∧ ce_ w25 B1 5 (.int .i64 Bi) ∧ ce_ w25 B1 6 (.int .i64 Bj) ∧ ce_ w25 B1 7 (.int .i64 Bk) ∧ ce_ w25 B1 8 (.int .i64 Bd) ∧ ce_ w25 B1 9 (.int .i64 Bl) ∧ ce_ w25 B1 10 (.slice B7 B4.length B8) ∧ ce_ w25 B0 0 (.int .i64 B9) ∧ ce_ w25 B0 1 (.int .i64 Be) ∧ ce_ w25 B0 2 (.int .i64 Bf) ∧ ce_ w25 B0 3 (.int .i64 Bg) ∧ ce_ w25 B0 4 (.int .i64 Bh) ∧ ce_ w25 B0 5 (.int .i64 Bi) ∧ ce_ w25 B0 6 (.int .i64 Bj) ∧ ce_ w25 B0 7 (.int .i64 Bk) ∧ ce_ w25 B0 8 (.int .i64 Bd) ∧ ce_ w25 B0 9 (.int .i64 Bl) ∧ ce_ w25 B0 10 (.slice B7 B4.length B8) ∧ ce_ w25 B0 11 (.slice A1 l1.length c1) := hS_
                     refine norm_ (a' := ?_) ?_ ?_
                     rotate_left
                     ·simp only [putAll, Act.put, zs_]
                      rfl
                     refine three_ (i := 7) (j := 14) (k := 16) (Ni := some 32) (Nj := some 39) (Nk := some 14) #[true, true, true, true, true, true, true, true, false, true, true, false, true, true, false, false, false, false] #[true, true, true, true, true, true, true, false, false, true, true, false, true, true, true, false, false, false] #[true, true, true, true, true, true, true, false, false, true, true, false, true, true, false, false, true, false] rfl rfl rfl rfl rfl rfl (three_of HT_.out (by kernel_rfl)) (by decide) (by decide) (by decide) (fun K hK => ?_) (fun K hK => ?_) (fun K hK => ?_)
                     ·skip
                      refine gos_ Try.func21 (round_machine_honest.calls k B9 Be Bf Bg Bh Bi Bj Bk Bd Bl _ _ B4 _ _ l1 _ _ (Kd.C_below D7.out HB.out) D8.out (Kd.C_below Fm.out HB.out) Fn.out Lj.out) ?_
                      rintro e w26 ⟨v407, rfl, E9, hb⟩
                      refine ⟨_, rfl, ?_⟩
                      have Br := am_ (Kd.R_lower (Kd.R_newM (M := fun k_ => (w.heap.size ≤ k_)) E9 (below_size HB.out) (fun k_ h_ => h_)) (below_size HB.out))
                      replace B3 := bkb_ B3 hb
                      replace B5 := bkb_ B5 hb
                      replace B2 := bkb_ B2 hb
                      replace HB := bst_ HB hb
                      (try clear hb)
                      (try clear hb2)
                      (try clear hk)
                      (try clear hi)
                      (try clear E9)
                      refine hK.out _ _ (and_11 B3.out (cells_12 B2.out)) (fun hHeld => ?_)
                      clear hK K
                      refine nor_ 32 ?_
                      exact norm_ (by first | (simp only [putAll, Act.put, zs_]; done) | (simp only [putAll, Act.put, zs_]; rfl)) (Jk (v407) _ ⟨hHeld, (by (with_reducible repeat (first | apply Kd.R_alloc | apply Kd.R_drewN | apply Kd.R_drew)); exact Kd.R_mono Br.out (fun _ hk => hk.1)), (by (with_reducible repeat (first | apply kn_ | apply kd_ | apply ka_)); exact B3.out), (by (with_reducible repeat (first | apply kn_ | apply kd_ | apply ka_)); exact B5.out), (by (with_reducible repeat (first | apply kn_ | apply kd_ | apply ka_)); exact B2.out), (by repeat (first | (with_reducible first | exact HB.out | apply ba_ | apply bn_ | apply bd_ | refine bs_ ?_ D0.out | refine bs_ ?_ D1.out | refine bs_ ?_ D2.out) | exact HB.out))⟩)
                     ·skip
                      refine Kd.N_make_step (Kd.slice 45 k45) _ 42 (by rfl) (N' := 39) rfl 28 _ _ rfl B9 rfl rfl Try.underlying28 (.slice none 0 0) 24 info42 rfl (by decide) (by omega) [] (ok := fun k_ => w25.heap.size ≤ k_) (okp := fun _ => False) (Kd.FK_slice_mk (Nat.le_refl _) (Kd.F_nil _ _ _)) (fun _ hk => hk.elim) (Nat.le_refl _) (of_decide_eq_true (by first | (with_reducible assumption) | assumption)) (Nat.le_trans (Nat.mul_le_mul_right _ (of_decide_eq_true (by first | (with_reducible assumption) | assumption) : B9.toNat ≤ 11728124029610)) (by omega)) (Below.refl _ _) (Nat.le_refl _) ?_
                      intro v414 w26 G0 hb hg_ hnew_
                      clear hg_ hnew_
                      (first | rw [← Dh.out] at G0 | (simp only [Int.reduceToNat] at G0; rw [← Dh.out] at G0))
                      have Bt := am_ (Kd.N_lower (Kd.N_mono (ok' := fun k_ => (w.heap.size ≤ k_) ∧ k_ ≠ B1 ∧ k_ ≠ Bb ∧ k_ ≠ B0) G0 (fun k_ hk_ => ⟨(Nat.le_trans (below_size HB.out) hk_), (Kd.freshB (g := B1) (o := .cells #[.int .i64 B9, .int .i64 Be, .int .i64 Bf, .int .i64 Bg, .int .i64 Bh, .int .i64 Bi, .int .i64 Bj, .int .i64 Bk, .int .i64 Bd, .int .i64 Bl, .slice B7 B4.length B8] 24 (0, 0)) (by (with_reducible repeat (first | apply kn_ | apply kd_ | apply ka_)); exact B3.out) k_ hk_), (Kd.freshB (g := Bb) (o := .cells #[.int .i64 0, .string (⟨#[]⟩ : ByteArray), .slice none 0 0, .slice none 0 0] 32 (0, 0)) (by (with_reducible repeat (first | apply kn_ | apply kd_ | apply ka_)); exact B5.out) k_ hk_), (Kd.freshB (g := B0) (o := .cells #[.int .i64 B9, .int .i64 Be, .int .i64 Bf, .int .i64 Bg, .int .i64 Bh, .int .i64 Bi, .int .i64 Bj, .int .i64 Bk, .int .i64 Bd, .int .i64 Bl, .slice B7 B4.length B8, .slice A1 l1.length c1] 47 (0, 0)) (by (with_reducible repeat (first | apply kn_ | apply kd_ | apply ka_)); exact B2.out) k_ hk_)⟩)) (below_size HB.out))
                      replace B3 := bkb_ B3 hb
                      replace B5 := bkb_ B5 hb
                      replace B2 := bkb_ B2 hb
                      replace HB := bst_ HB hb
                      clear hb G0
                      refine hK.out _ _ (and_11 B3.out (cells_12 B2.out)) (fun hHeld => ?_)
                      clear hK K
                      refine nor_ 39 ?_
                      exact norm_ (by first | (simp only [putAll, Act.put, zs_]; done) | (simp only [putAll, Act.put, zs_]; rfl)) (Fx (v414) _ ⟨hHeld, (by (with_reducible repeat (first | apply Kd.N_alloc | apply Kd.N_drewN | apply Kd.N_drew)); exact Bt.out), (by (with_reducible repeat (first | apply kn_ | apply kd_ | apply ka_)); exact B3.out), (by (with_reducible repeat (first | apply kn_ | apply kd_ | apply ka_)); exact B5.out), (by (with_reducible repeat (first | apply kn_ | apply kd_ | apply ka_)); exact B2.out), (by repeat (first | (with_reducible first | exact HB.out | apply ba_ | apply bn_ | apply bd_ | refine bs_ ?_ D0.out | refine bs_ ?_ D1.out | refine bs_ ?_ D2.out) | exact HB.out))⟩)
                     ·skip
                      refine box_step ?hg (N := 14) ?hd (cs := #[.int .i64 0, .string (⟨#[]⟩ : ByteArray), .slice none 0 0, .slice none 0 0]) (t := 32) ?hr ?_; (case hd => rfl); (case hg => rfl); (case hr => first | (go_simp; done) | (go_simp; rfl))
                      intro B6 hg w26 hbox hb
                      have Bn := am_ (hbox)
                      have Bz := gwk_ HB hg
                      have Bu := Bz
                      replace HB := bst_ HB hb
                      have Bc := nbk_ B3 hg
                      have Bp := nbs_ Bc
                      replace B3 := bkb_ B3 hb
                      have Bm := nbk_ B5 hg
                      have Bq := nbs_ Bm
                      replace B5 := bkb_ B5 hb
                      have Ba := nbk_ B2 hg
                      have Bo := nbs_ Ba
                      replace B2 := bkb_ B2 hb
                      clear hb hbox hg
                      refine hK.out _ _ (and_11 B3.out (cells_12 B2.out)) (fun hHeld => ?_)
                      clear hK K
                      refine nor_ 14 ?_
                      exact norm_ (by first | (simp only [putAll, Act.put, zs_]; done) | (simp only [putAll, Act.put, zs_]; rfl)) (Fy (B6) _ ⟨hHeld, (by (with_reducible repeat (first | apply kn_ | apply kd_ | apply ka_)); exact B3.out), (by (with_reducible repeat (first | apply kn_ | apply kd_ | apply ka_)); exact B5.out), (by (with_reducible repeat (first | apply kn_ | apply kd_ | apply ka_)); exact B2.out), (by (with_reducible repeat (first | apply kn_ | apply kd_ | apply ka_)); exact Bn.out), Bz.out, Bu.out, Bc.out, Bp.out, Bm.out, Bq.out, Ba.out, Bo.out, (by repeat (first | (with_reducible first | exact HB.out | apply ba_ | apply bn_ | apply bd_ | refine bs_ ?_ D0.out | refine bs_ ?_ D1.out | refine bs_ ?_ D2.out | refine bs_ ?_ Bu.out) | exact HB.out))⟩)
                   ·skip
                    rintro ⟨v414, B6⟩ w28 ⟨hS_, Dr, Ds, Dt, Du, Dy, E4, Ek, En, Eo, Ep, Di, Dj, Dk, E0⟩
                    have Dd : Aside0 (Kd.N (Kd.slice 45 k45) 42 w28 w.heap.size (fun k_ => (w.heap.size ≤ k_) ∧ k_ ≠ B1 ∧ k_ ≠ Bb ∧ k_ ≠ B0 ∧ k_ ≠ B6) v414 y413) := ⟨Dr⟩
                    have De : Aside0 (w28.heap[B1]? = some (.cells #[.int .i64 B9, .int .i64 Be, .int .i64 Bf, .int .i64 Bg, .int .i64 Bh, .int .i64 Bi, .int .i64 Bj, .int .i64 Bk, .int .i64 Bd, .int .i64 Bl, .slice B7 B4.length B8] 24 (0, 0))) := ⟨Ds⟩
                    have Df : Aside0 (w28.heap[Bb]? = some (.cells #[.int .i64 0, .string (⟨#[]⟩ : ByteArray), .slice none 0 0, .slice none 0 0] 32 (0, 0))) := ⟨Dt⟩
                    have Dg : Aside0 (w28.heap[B0]? = some (.cells #[.int .i64 B9, .int .i64 Be, .int .i64 Bf, .int .i64 Bg, .int .i64 Bh, .int .i64 Bi, .int .i64 Bj, .int .i64 Bk, .int .i64 Bd, .int .i64 Bl, .slice B7 B4.length B8, .slice A1 l1.length c1] 47 (0, 0))) := ⟨Du⟩
                    have Dq : Aside0 (w28.heap[B6]? = some (.cells #[.int .i64 0, .string (⟨#[]⟩ : ByteArray), .slice none 0 0, .slice none 0 0] 32 (0, 0))) := ⟨Dy⟩
                    have E2 : Aside0 (w.heap.size ≤ B6) := ⟨E4⟩
                    have Ea : Aside0 (w.heap.size ≤ B6) := ⟨Ek⟩
                    have Eg : Aside0 (B1 ≠ B6) := ⟨En⟩
                    have Eh : Aside0 (B6 ≠ B1) := ⟨Eo⟩
                    have Eq : Aside0 (Bb ≠ B6) := ⟨Ep⟩
                    have Dl : Aside0 (B6 ≠ Bb) := ⟨Di⟩
                    have Dm : Aside0 (B0 ≠ B6) := ⟨Dj⟩
                    have Dn : Aside0 (B6 ≠ B0) := ⟨Dk⟩
                    have E1 : Aside0 (Below w.heap.size w w28) := ⟨E0⟩
                    clear B3
                    clear B5
                    clear B2
                    clear HB
                    clear Dr Ds Dt Du Dy E4 Ek En Eo Ep Di Dj Dk E0
                    have Bt := Dd
                    have B3 := De
                    have B5 := Df
                    have B2 := Dg
                    have Bn := Dq
                    have Bz := E2
                    have Bu := Ea
                    have Bc := Eg
                    have Bp := Eh
                    have Bm := Eq
                    have Bq := Dl
                    have Ba := Dm
                    have Bo := Dn
                    have HB := E1
                    clear Dd De Df Dg Dq E2 Ea Eg Eh Eq Dl Dm Dn E1
                    have hHeld : ce_ w28 B1 0 (.int .i64 B9) ∧ ce_ w28 B1 1 (.int .i64 Be) ∧ ce_ w28 B1 2 (.int .i64 Bf) ∧ ce_ w28 B1 3 (.int .i64 Bg) ∧ ce_ w28 B1 4 (.int .i64 Bh) ∧ ce_ w28 B1 5 (.int .i64 Bi) ∧ ce_ w28 B1 6 (.int .i64 Bj) ∧ ce_ w28 B1 7 (.int .i64 Bk) ∧ ce_ w28 B1 8 (.int .i64 Bd) ∧ ce_ w28 B1 9 (.int .i64 Bl) ∧ ce_ w28 B1 10 (.slice B7 B4.length B8) ∧ ce_ w28 B0 0 (.int .i64 B9) ∧ ce_ w28 B0 1 (.int .i64 Be) ∧ ce_ w28 B0 2 (.int .i64 Bf) ∧ ce_ w28 B0 3 (.int .i64 Bg) ∧ ce_ w28 B0 4 (.int .i64 Bh) ∧ ce_ w28 B0 5 (.int .i64 Bi) ∧ ce_ w28 B0 6 (.int .i64 Bj) ∧ ce_ w28 B0 7 (.int .i64 Bk) ∧ ce_ w28 B0 8 (.int .i64 Bd) ∧ ce_ w28 B0 9 (.int .i64 Bl) ∧ ce_ w28 B0 10 (.slice B7 B4.length B8) ∧ ce_ w28 B0 11 (.slice A1 l1.length c1) := hS_
                    refine norm_ (a' := ?_) ?_ ?_
                    rotate_left
                    ·simp only [putAll, Act.put, zs_]
                     rfl
                    refine oon_ 3 (some 28) rfl rfl (one_of HT_.out (by kernel_rfl)) (fun K hK => ?_)
                    refine gos_ Try.func19 (num_Mod.calls a2 Bd _ _ A9.out) ?_
                    rintro e w' ⟨rfl, ⟨nd, rfl⟩⟩
                    refine ⟨_, rfl, ?_⟩
                    refine hK.out _ _ (and_11 B3.out (cells_12 B2.out)) (fun hHeld => ?_)
                    clear hK K
                    refine nor_ 28 ?_
                    exact norm_ (by first | (simp only [putAll, Act.put, zs_]; done) | (simp only [putAll, Act.put, zs_]; rfl)) (Es (v414, B6) _ ⟨hHeld, (by (with_reducible repeat (first | apply Kd.N_alloc | apply Kd.N_drewN | apply Kd.N_drew)); exact Bt.out), (by (with_reducible repeat (first | apply kn_ | apply kd_ | apply ka_)); exact B3.out), (by (with_reducible repeat (first | apply kn_ | apply kd_ | apply ka_)); exact B5.out), (by (with_reducible repeat (first | apply kn_ | apply kd_ | apply ka_)); exact B2.out), (by (with_reducible repeat (first | apply kn_ | apply kd_ | apply ka_)); exact Bn.out), Bz.out, Bu.out, Bc.out, Bp.out, Bm.out, Bq.out, Ba.out, Bo.out, (by repeat (first | (with_reducible first | exact HB.out | apply ba_ | apply bn_ | apply bd_ | refine bs_ ?_ D0.out | refine bs_ ?_ D1.out | refine bs_ ?_ D2.out | refine bs_ ?_ Bu.out) | exact HB.out))⟩)
                  ·skip
                   rintro B6 w26 ⟨hS_, Dr, Ds, Dt, Du, Dy, E4, Ek, En, Eo, Ep, Di, Dj, Dk⟩
                   have Dd : Aside0 (w26.heap[B1]? = some (.cells #[.int .i64 B9, .int .i64 Be, .int .i64 Bf, .int .i64 Bg, .int .i64 Bh, .int .i64 Bi, .int .i64 Bj, .int .i64 Bk, .int .i64 Bd, .int .i64 Bl, .slice B7 B4.length B8] 24 (0, 0))) := ⟨Dr⟩
                   have De : Aside0 (w26.heap[Bb]? = some (.cells #[.int .i64 0, .string (⟨#[]⟩ : ByteArray), .slice none 0 0, .slice none 0 0] 32 (0, 0))) := ⟨Ds⟩
                   have Df : Aside0 (w26.heap[B0]? = some (.cells #[.int .i64 B9, .int .i64 Be, .int .i64 Bf, .int .i64 Bg, .int .i64 Bh, .int .i64 Bi, .int .i64 Bj, .int .i64 Bk, .int .i64 Bd, .int .i64 Bl, .slice B7 B4.length B8, .slice A1 l1.length c1] 47 (0, 0))) := ⟨Dt⟩
                   have Dg : Aside0 (w26.heap[B6]? = some (.cells #[.int .i64 0, .string (⟨#[]⟩ : ByteArray), .slice none 0 0, .slice none 0 0] 32 (0, 0))) := ⟨Du⟩
                   have Dq : Aside0 (w.heap.size ≤ B6) := ⟨Dy⟩
                   have E2 : Aside0 (w.heap.size ≤ B6) := ⟨E4⟩
                   have Ea : Aside0 (B1 ≠ B6) := ⟨Ek⟩
                   have Eg : Aside0 (B6 ≠ B1) := ⟨En⟩
                   have Eh : Aside0 (Bb ≠ B6) := ⟨Eo⟩
                   have Eq : Aside0 (B6 ≠ Bb) := ⟨Ep⟩
                   have Dl : Aside0 (B0 ≠ B6) := ⟨Di⟩
                   have Dm : Aside0 (B6 ≠ B0) := ⟨Dj⟩
                   have Dn : Aside0 (Below w.heap.size w w26) := ⟨Dk⟩
                   clear B3
                   clear B5
                   clear B2
                   clear HB
                   clear Dr Ds Dt Du Dy E4 Ek En Eo Ep Di Dj Dk
                   have B3 := Dd
                   have B5 := De
                   have B2 := Df
                   have Bn := Dg
                   have Bz := Dq
                   have Bu := E2
                   have Bc := Ea
                   have Bp := Eg
                   have Bm := Eh
                   have Bq := Eq
                   have Ba := Dl
                   have Bo := Dm
                   have HB := Dn
                   clear Dd De Df Dg Dq E2 Ea Eg Eh Eq Dl Dm Dn
                   have hHeld : ce_ w26 B1 0 (.int .i64 B9) ∧ ce_ w26 B1 1 (.int .i64 Be) ∧ ce_ w26 B1 2 (.int .i64 Bf) ∧ ce_ w26 B1 3 (.int .i64 Bg) ∧ ce_ w26 B1 4 (.int .i64 Bh) ∧ ce_ w26 B1 5 (.int .i64 Bi) ∧ ce_ w26 B1 6 (.int .i64 Bj) ∧ ce_ w26 B1 7 (.int .i64 Bk) ∧ ce_ w26 B1 8 (.int .i64 Bd) ∧ ce_ w26 B1 9 (.int .i64 Bl) ∧ ce_ w26 B1 10 (.slice B7 B4.length B8) ∧ ce_ w26 B0 0 (.int .i64 B9) ∧ ce_ w26 B0 1 (.int .i64 Be) ∧ ce_ w26 B0 2 (.int .i64 Bf) ∧ ce_ w26 B0 3 (.int .i64 Bg) ∧ ce_ w26 B0 4 (.int .i64 Bh) ∧ ce_ w26 B0 5 (.int .i64 Bi) ∧ ce_ w26 B0 6 (.int .i64 Bj) ∧ ce_ w26 B0 7 (.int .i64 Bk) ∧ ce_ w26 B0 8 (.int .i64 Bd) ∧ ce_ w26 B0 9 (.int .i64 Bl) ∧ ce_ w26 B0 10 (.slice B7 B4.length B8) ∧ ce_ w26 B0 11 (.slice A1 l1.length c1) := hS_
                   refine norm_ (a' := ?_) ?_ ?_
                   rotate_left
                   ·simp only [putAll, Act.put, zs_]
                    rfl
                   refine two_ (i := 7) (j := 14) (Ni := some 32) (Nj := some 39) #[true, true, true, true, true, true, true, true, false, true, true, false, true, true, false, false, true, false] #[true, true, true, true, true, true, true, false, false, true, true, false, true, true, true, false, true, false] rfl rfl rfl rfl (two_of HT_.out (by kernel_rfl)) (by decide) (by decide) (fun K hK => ?_) (fun K hK => ?_)
                   ·skip
                    refine gos_ Try.func21 (round_machine_honest.calls k B9 Be Bf Bg Bh Bi Bj Bk Bd Bl _ _ B4 _ _ l1 _ _ (Kd.C_below D7.out HB.out) D8.out (Kd.C_below Fm.out HB.out) Fn.out Lj.out) ?_
                    rintro e w27 ⟨v407, rfl, E9, hb⟩
                    refine ⟨_, rfl, ?_⟩
                    have Br := am_ (Kd.R_lower (Kd.R_newM (M := fun k_ => (w.heap.size ≤ k_)) E9 (below_size HB.out) (fun k_ h_ => h_)) (below_size HB.out))
                    replace B3 := bkb_ B3 hb
                    replace B5 := bkb_ B5 hb
                    replace B2 := bkb_ B2 hb
                    replace Bn := bkb_ Bn hb
                    replace HB := bst_ HB hb
                    (try clear hb)
                    (try clear hb2)
                    (try clear hk)
                    (try clear hi)
                    (try clear E9)
                    refine hK.out _ _ (and_11 B3.out (cells_12 B2.out)) (fun hHeld => ?_)
                    clear hK K
                    refine nor_ 32 ?_
                    exact norm_ (by first | (simp only [putAll, Act.put, zs_]; done) | (simp only [putAll, Act.put, zs_]; rfl)) (F7 (v407, B6) _ ⟨hHeld, (by (with_reducible repeat (first | apply Kd.R_alloc | apply Kd.R_drewN | apply Kd.R_drew)); exact Kd.R_mono Br.out (fun _ hk => hk.1)), (by (with_reducible repeat (first | apply kn_ | apply kd_ | apply ka_)); exact B3.out), (by (with_reducible repeat (first | apply kn_ | apply kd_ | apply ka_)); exact B5.out), (by (with_reducible repeat (first | apply kn_ | apply kd_ | apply ka_)); exact B2.out), (by (with_reducible repeat (first | apply kn_ | apply kd_ | apply ka_)); exact Bn.out), Bz.out, Bu.out, Bc.out, Bp.out, Bm.out, Bq.out, Ba.out, Bo.out, (by repeat (first | (with_reducible first | exact HB.out | apply ba_ | apply bn_ | apply bd_ | refine bs_ ?_ D0.out | refine bs_ ?_ D1.out | refine bs_ ?_ D2.out | refine bs_ ?_ Bu.out) | exact HB.out))⟩)
                   ·skip
                    refine Kd.N_make_step (Kd.slice 45 k45) _ 42 (by rfl) (N' := 39) rfl 28 _ _ rfl B9 rfl rfl Try.underlying28 (.slice none 0 0) 24 info42 rfl (by decide) (by omega) [] (ok := fun k_ => w26.heap.size ≤ k_) (okp := fun _ => False) (Kd.FK_slice_mk (Nat.le_refl _) (Kd.F_nil _ _ _)) (fun _ hk => hk.elim) (Nat.le_refl _) (of_decide_eq_true (by first | (with_reducible assumption) | assumption)) (Nat.le_trans (Nat.mul_le_mul_right _ (of_decide_eq_true (by first | (with_reducible assumption) | assumption) : B9.toNat ≤ 11728124029610)) (by omega)) (Below.refl _ _) (Nat.le_refl _) ?_
                    intro v414 w27 Ec hb hg_ hnew_
                    clear hg_ hnew_
                    (first | rw [← Dh.out] at Ec | (simp only [Int.reduceToNat] at Ec; rw [← Dh.out] at Ec))
                    have Bt := am_ (Kd.N_lower (Kd.N_mono (ok' := fun k_ => (w.heap.size ≤ k_) ∧ k_ ≠ B1 ∧ k_ ≠ Bb ∧ k_ ≠ B0 ∧ k_ ≠ B6) Ec (fun k_ hk_ => ⟨(Nat.le_trans (below_size HB.out) hk_), (Kd.freshB (g := B1) (o := .cells #[.int .i64 B9, .int .i64 Be, .int .i64 Bf, .int .i64 Bg, .int .i64 Bh, .int .i64 Bi, .int .i64 Bj, .int .i64 Bk, .int .i64 Bd, .int .i64 Bl, .slice B7 B4.length B8] 24 (0, 0)) (by (with_reducible repeat (first | apply kn_ | apply kd_ | apply ka_)); exact B3.out) k_ hk_), (Kd.freshB (g := Bb) (o := .cells #[.int .i64 0, .string (⟨#[]⟩ : ByteArray), .slice none 0 0, .slice none 0 0] 32 (0, 0)) (by (with_reducible repeat (first | apply kn_ | apply kd_ | apply ka_)); exact B5.out) k_ hk_), (Kd.freshB (g := B0) (o := .cells #[.int .i64 B9, .int .i64 Be, .int .i64 Bf, .int .i64 Bg, .int .i64 Bh, .int .i64 Bi, .int .i64 Bj, .int .i64 Bk, .int .i64 Bd, .int .i64 Bl, .slice B7 B4.length B8, .slice A1 l1.length c1] 47 (0, 0)) (by (with_reducible repeat (first | apply kn_ | apply kd_ | apply ka_)); exact B2.out) k_ hk_), (Kd.freshB (g := B6) (o := .cells #[.int .i64 0, .string (⟨#[]⟩ : ByteArray), .slice none 0 0, .slice none 0 0] 32 (0, 0)) (by (with_reducible repeat (first | apply kn_ | apply kd_ | apply ka_)); exact Bn.out) k_ hk_)⟩)) (below_size HB.out))
                    replace B3 := bkb_ B3 hb
                    replace B5 := bkb_ B5 hb
                    replace B2 := bkb_ B2 hb
                    replace Bn := bkb_ Bn hb
                    replace HB := bst_ HB hb
                    clear hb Ec
                    refine hK.out _ _ (and_11 B3.out (cells_12 B2.out)) (fun hHeld => ?_)
                    clear hK K
                    refine nor_ 39 ?_
                    exact norm_ (by first | (simp only [putAll, Act.put, zs_]; done) | (simp only [putAll, Act.put, zs_]; rfl)) (Es (v414, B6) _ ⟨hHeld, (by (with_reducible repeat (first | apply Kd.N_alloc | apply Kd.N_drewN | apply Kd.N_drew)); exact Bt.out), (by (with_reducible repeat (first | apply kn_ | apply kd_ | apply ka_)); exact B3.out), (by (with_reducible repeat (first | apply kn_ | apply kd_ | apply ka_)); exact B5.out), (by (with_reducible repeat (first | apply kn_ | apply kd_ | apply ka_)); exact B2.out), (by (with_reducible repeat (first | apply kn_ | apply kd_ | apply ka_)); exact Bn.out), Bz.out, Bu.out, Bc.out, Bp.out, Bm.out, Bq.out, Ba.out, Bo.out, (by repeat (first | (with_reducible first | exact HB.out | apply ba_ | apply bn_ | apply bd_ | refine bs_ ?_ D0.out | refine bs_ ?_ D1.out | refine bs_ ?_ D2.out | refine bs_ ?_ Bu.out) | exact HB.out))⟩)
                 ·skip
                  rintro v414 w27 ⟨hS_, Dr, Ds, Dt, Du, Dy⟩
                  have Dd : Aside0 (Kd.N (Kd.slice 45 k45) 42 w27 w.heap.size (fun k_ => (w.heap.size ≤ k_) ∧ k_ ≠ B1 ∧ k_ ≠ Bb ∧ k_ ≠ B0) v414 y413) := ⟨Dr⟩
                  have De : Aside0 (w27.heap[B1]? = some (.cells #[.int .i64 B9, .int .i64 Be, .int .i64 Bf, .int .i64 Bg, .int .i64 Bh, .int .i64 Bi, .int .i64 Bj, .int .i64 Bk, .int .i64 Bd, .int .i64 Bl, .slice B7 B4.length B8] 24 (0, 0))) := ⟨Ds⟩
                  have Df : Aside0 (w27.heap[Bb]? = some (.cells #[.int .i64 0, .string (⟨#[]⟩ : ByteArray), .slice none 0 0, .slice none 0 0] 32 (0, 0))) := ⟨Dt⟩
                  have Dg : Aside0 (w27.heap[B0]? = some (.cells #[.int .i64 B9, .int .i64 Be, .int .i64 Bf, .int .i64 Bg, .int .i64 Bh, .int .i64 Bi, .int .i64 Bj, .int .i64 Bk, .int .i64 Bd, .int .i64 Bl, .slice B7 B4.length B8, .slice A1 l1.length c1] 47 (0, 0))) := ⟨Du⟩
                  have Dq : Aside0 (Below w.heap.size w w27) := ⟨Dy⟩
                  clear B3
                  clear B5
                  clear B2
                  clear HB
                  clear Dr Ds Dt Du Dy
                  have Bt := Dd
                  have B3 := De
                  have B5 := Df
                  have B2 := Dg
                  have HB := Dq
                  clear Dd De Df Dg Dq
                  have hHeld : ce_ w27 B1 0 (.int .i64 B9) ∧ ce_ w27 B1 1 (.int .i64 Be) ∧ ce_ w27 B1 2 (.int .i64 Bf) ∧ ce_ w27 B1 3 (.int .i64 Bg) ∧ ce_ w27 B1 4 (.int .i64 Bh) ∧ ce_ w27 B1 5 (.int .i64 Bi) ∧ ce_ w27 B1 6 (.int .i64 Bj) ∧ ce_ w27 B1 7 (.int .i64 Bk) ∧ ce_ w27 B1 8 (.int .i64 Bd) ∧ ce_ w27 B1 9 (.int .i64 Bl) ∧ ce_ w27 B1 10 (.slice B7 B4.length B8) ∧ ce_ w27 B0 0 (.int .i64 B9) ∧ ce_ w27 B0 1 (.int .i64 Be) ∧ ce_ w27 B0 2 (.int .i64 Bf) ∧ ce_ w27 B0 3 (.int .i64 Bg) ∧ ce_ w27 B0 4 (.int .i64 Bh) ∧ ce_ w27 B0 5 (.int .i64 Bi) ∧ ce_ w27 B0 6 (.int .i64 Bj) ∧ ce_ w27 B0 7 (.int .i64 Bk) ∧ ce_ w27 B0 8 (.int .i64 Bd) ∧ ce_ w27 B0 9 (.int .i64 Bl) ∧ ce_ w27 B0 10 (.slice B7 B4.length B8) ∧ ce_ w27 B0 11 (.slice A1 l1.length c1) := hS_
                  refine norm_ (a' := ?_) ?_ ?_
                  rotate_left
                  ·simp only [putAll, Act.put, zs_]
                   rfl
                  refine two_ (i := 7) (j := 16) (Ni := some 32) (Nj := some 14) #[true, true, true, true, true, true, true, true, false, true, true, false, true, true, true, false, false, false] #[true, true, true, true, true, true, true, false, false, true, true, false, true, true, true, false, true, false] rfl rfl rfl rfl (two_of HT_.out (by kernel_rfl)) (by decide) (by decide) (fun K hK => ?_) (fun K hK => ?_)
                  ·skip
                   refine gos_ Try.func21 (round_machine_honest.calls k B9 Be Bf Bg Bh Bi Bj Bk Bd Bl _ _ B4 _ _ l1 _ _ (Kd.C_below D7.out HB.out) D8.out (Kd.C_below Fm.out HB.out) Fn.out Lj.out) ?_
                   rintro e w28 ⟨v407, rfl, E9, hb⟩
                   refine ⟨_, rfl, ?_⟩
                   replace Bt := am_ (Kd.N_elder' (by (with_reducible repeat (first | apply Kd.N_alloc | apply Kd.N_drewN | apply Kd.N_drew)); exact Bt.out) (Kd.R_base E9) hb)
                   have Br := am_ (Kd.R_lower (Kd.R_newM (M := fun k_ => (w.heap.size ≤ k_)) E9 (below_size HB.out) (fun k_ h_ => h_)) (below_size HB.out))
                   replace B3 := bkb_ B3 hb
                   replace B5 := bkb_ B5 hb
                   replace B2 := bkb_ B2 hb
                   replace HB := bst_ HB hb
                   (try clear hb)
                   (try clear hb2)
                   (try clear hk)
                   (try clear hi)
                   (try clear E9)
                   refine hK.out _ _ (and_11 B3.out (cells_12 B2.out)) (fun hHeld => ?_)
                   clear hK K
                   refine nor_ 32 ?_
                   exact norm_ (by first | (simp only [putAll, Act.put, zs_]; done) | (simp only [putAll, Act.put, zs_]; rfl)) (F6 (v407, v414) _ ⟨hHeld, (by (with_reducible repeat (first | apply Kd.R_alloc | apply Kd.R_drewN | apply Kd.R_drew)); exact Kd.R_mono Br.out (fun _ hk => hk.1)), (by (with_reducible repeat (first | apply Kd.N_alloc | apply Kd.N_drewN | apply Kd.N_drew)); exact Kd.N_mono Bt.out (fun _ hk => ⟨hk.1.1, ⟨hk.2, ⟨hk.1.2.1, ⟨hk.1.2.2.1, hk.1.2.2.2⟩⟩⟩⟩)), (by (with_reducible repeat (first | apply kn_ | apply kd_ | apply ka_)); exact B3.out), (by (with_reducible repeat (first | apply kn_ | apply kd_ | apply ka_)); exact B5.out), (by (with_reducible repeat (first | apply kn_ | apply kd_ | apply ka_)); exact B2.out), (by repeat (first | (with_reducible first | exact HB.out | apply ba_ | apply bn_ | apply bd_ | refine bs_ ?_ D0.out | refine bs_ ?_ D1.out | refine bs_ ?_ D2.out) | exact HB.out))⟩)
                  ·skip
                   refine box_step ?hg (N := 14) ?hd (cs := #[.int .i64 0, .string (⟨#[]⟩ : ByteArray), .slice none 0 0, .slice none 0 0]) (t := 32) ?hr ?_; (case hd => rfl); (case hg => rfl); (case hr => first | (go_simp; done) | (go_simp; rfl))
                   intro B6 hg w28 hbox hb
                   replace Bt := am_ (Kd.N_below (Kd.N_elderB (by (with_reducible repeat (first | apply Kd.N_alloc | apply Kd.N_drewN | apply Kd.N_drew)); exact Bt.out) B6 (Nat.le_of_eq hg.symm)) hb)
                   have Bn := am_ (hbox)
                   have Bz := gwk_ HB hg
                   have Bu := Bz
                   replace HB := bst_ HB hb
                   have Bc := nbk_ B3 hg
                   have Bp := nbs_ Bc
                   replace B3 := bkb_ B3 hb
                   have Bm := nbk_ B5 hg
                   have Bq := nbs_ Bm
                   replace B5 := bkb_ B5 hb
                   have Ba := nbk_ B2 hg
                   have Bo := nbs_ Ba
                   replace B2 := bkb_ B2 hb
                   clear hb hbox hg
                   refine hK.out _ _ (and_11 B3.out (cells_12 B2.out)) (fun hHeld => ?_)
                   clear hK K
                   refine nor_ 14 ?_
                   exact norm_ (by first | (simp only [putAll, Act.put, zs_]; done) | (simp only [putAll, Act.put, zs_]; rfl)) (Es (v414, B6) _ ⟨hHeld, (by (with_reducible repeat (first | apply Kd.N_alloc | apply Kd.N_drewN | apply Kd.N_drew)); exact Kd.N_mono Bt.out (fun _ hk => ⟨hk.1.1, ⟨hk.1.2.1, ⟨hk.1.2.2.1, ⟨hk.1.2.2.2, hk.2⟩⟩⟩⟩)), (by (with_reducible repeat (first | apply kn_ | apply kd_ | apply ka_)); exact B3.out), (by (with_reducible repeat (first | apply kn_ | apply kd_ | apply ka_)); exact B5.out), (by (with_reducible repeat (first | apply kn_ | apply kd_ | apply ka_)); exact B2.out), (by (with_reducible repeat (first | apply kn_ | apply kd_ | apply ka_)); exact Bn.out), Bz.out, Bu.out, Bc.out, Bp.out, Bm.out, Bq.out, Ba.out, Bo.out, (by repeat (first | (with_reducible first | exact HB.out | apply ba_ | apply bn_ | apply bd_ | refine bs_ ?_ D0.out | refine bs_ ?_ D1.out | refine bs_ ?_ D2.out | refine bs_ ?_ Bu.out) | exact HB.out))⟩)
                ·skip
                 rintro v407 w26 ⟨hS_, Dr, Ds, Dt, Du, Dy⟩
                 have Dd : Aside0 (Kd.R (Kd.int .i64) 3 w26 w.heap.size (fun k_ => (w.heap.size ≤ k_)) v407 D9) := ⟨Dr⟩
                 have De : Aside0 (w26.heap[B1]? = some (.cells #[.int .i64 B9, .int .i64 Be, .int .i64 Bf, .int .i64 Bg, .int .i64 Bh, .int .i64 Bi, .int .i64 Bj, .int .i64 Bk, .int .i64 Bd, .int .i64 Bl, .slice B7 B4.length B8] 24 (0, 0))) := ⟨Ds⟩
                 have Df : Aside0 (w26.heap[Bb]? = some (.cells #[.int .i64 0, .string (⟨#[]⟩ : ByteArray), .slice none 0 0, .slice none 0 0] 32 (0, 0))) := ⟨Dt⟩
                 have Dg : Aside0 (w26.heap[B0]? = some (.cells #[.int .i64 B9, .int .i64 Be, .int .i64 Bf, .int .i64 Bg, .int .i64 Bh, .int .i64 Bi, .int .i64 Bj, .int .i64 Bk, .int .i64 Bd, .int .i64 Bl, .slice B7 B4.length B8, .slice A1 l1.length c1] 47 (0, 0))) := ⟨Du⟩
                 have Dq : Aside0 (Below w.heap.size w w26) := ⟨Dy⟩
                 clear B3
                 clear B5
                 clear B2
                 clear HB
                 clear Dr Ds Dt Du Dy
                 have Br := Dd
                 have B3 := De
                 have B5 := Df
                 have B2 := Dg
                 have HB := Dq
                 clear Dd De Df Dg Dq
                 have hHeld : ce_ w26 B1 0 (.int .i64 B9) ∧ ce_ w26 B1 1 (.int .i64 Be) ∧ ce_ w26 B1 2 (.int .i64 Bf) ∧ ce_ w26 B1 3 (.int .i64 Bg) ∧ ce_ w26 B1 4 (.int .i64 Bh) ∧ ce_ w26 B1 5 (.int .i64 Bi) ∧ ce_ w26 B1 6 (.int .i64 Bj) ∧ ce_ w26 B1 7 (.int .i64 Bk) ∧ ce_ w26 B1 8 (.int .i64 Bd) ∧ ce_ w26 B1 9 (.int .i64 Bl) ∧ ce_ w26 B1 10 (.slice B7 B4.length B8) ∧ ce_ w26 B0 0 (.int .i64 B9) ∧ ce_ w26 B0 1 (.int .i64 Be) ∧ ce_ w26 B0 2 (.int .i64 Bf) ∧ ce_ w26 B0 3 (.int .i64 Bg) ∧ ce_ w26 B0 4 (.int .i64 Bh) ∧ ce_ w26 B0 5 (.int .i64 Bi) ∧ ce_ w26 B0 6 (.int .i64 Bj) ∧ ce_ w26 B0 7 (.int .i64 Bk) ∧ ce_ w26 B0 8 (.int .i64 Bd) ∧ ce_ w26 B0 9 (.int .i64 Bl) ∧ ce_ w26 B0 10 (.slice B7 B4.length B8) ∧ ce_ w26 B0 11 (.slice A1 l1.length c1) := hS_
                 obtain ⟨Gc, Gd, Jl⟩ := Kd.R_slice Br.out
                 (first | subst Jl | (injection Jl with f1_ f2_ f3_; have El := f1_.symm; have Em := f3_.symm; clear f1_ f2_ f3_; subst El; subst Em))
                 refine norm_ (a' := ?_) ?_ ?_
                 rotate_left
                 ·simp only [putAll, Act.put, zs_]
                  rfl
                 refine three_ (i := 8) (j := 14) (k := 16) (Ni := some 33) (Nj := some 39) (Nk := some 14) #[true, true, true, true, true, true, true, true, true, true, true, false, true, true, false, false, false, false] #[true, true, true, true, true, true, true, true, false, true, true, false, true, true, true, false, false, false] #[true, true, true, true, true, true, true, true, false, true, true, false, true, true, false, false, true, false] rfl rfl rfl rfl rfl rfl (three_of HT_.out (by kernel_rfl)) (by decide) (by decide) (by decide) (fun K hK => ?_) (fun K hK => ?_) (fun K hK => ?_)
                 ·skip
                  refine gos_ Try.func20 (roster_Mark.calls k B9 Be Bf Bg Bh Bi Bj Bk Bd Bl _ _ B4 a3 _ _ D9 _ _ (Kd.C_below D7.out HB.out) D8.out (Kd.R_reads' Br.out).2.2 (Kd.R_reads' Br.out).2.1 Lk.out) ?_
                  rintro e w28 ⟨rfl, hb⟩
                  refine ⟨_, rfl, ?_⟩
                  replace Br := am_ (Kd.R_below Br.out hb)
                  replace B3 := bkb_ B3 hb
                  replace B5 := bkb_ B5 hb
                  replace B2 := bkb_ B2 hb
                  replace HB := bst_ HB hb
                  (try clear hb)
                  (try clear hb2)
                  (try clear hk)
                  (try clear hi)
                  refine hK.out _ _ (and_11 B3.out (cells_12 B2.out)) (fun hHeld => ?_)
                  clear hK K
                  refine nor_ 33 ?_
                  exact norm_ (by first | (simp only [putAll, Act.put, zs_]; done) | (simp only [putAll, Act.put, zs_]; rfl)) (Gb (.slice Gc D9.length Gd) _ ⟨hHeld, (by (with_reducible repeat (first | apply Kd.R_alloc | apply Kd.R_drewN | apply Kd.R_drew)); exact Br.out), (by (with_reducible repeat (first | apply kn_ | apply kd_ | apply ka_)); exact B3.out), (by (with_reducible repeat (first | apply kn_ | apply kd_ | apply ka_)); exact B5.out), (by (with_reducible repeat (first | apply kn_ | apply kd_ | apply ka_)); exact B2.out), (by repeat (first | (with_reducible first | exact HB.out | apply ba_ | apply bn_ | apply bd_ | refine bs_ ?_ D0.out | refine bs_ ?_ D1.out | refine bs_ ?_ D2.out) | exact HB.out))⟩)
                 ·skip
                  refine Kd.N_make_step (Kd.slice 45 k45) _ 42 (by rfl) (N' := 39) rfl 28 _ _ rfl B9 rfl rfl Try.underlying28 (.slice none 0 0) 24 info42 rfl (by decide) (by omega) [] (ok := fun k_ => w26.heap.size ≤ k_) (okp := fun _ => False) (Kd.FK_slice_mk (Nat.le_refl _) (Kd.F_nil _ _ _)) (fun _ hk => hk.elim) (Nat.le_refl _) (of_decide_eq_true (by first | (with_reducible assumption) | assumption)) (Nat.le_trans (Nat.mul_le_mul_right _ (of_decide_eq_true (by first | (with_reducible assumption) | assumption) : B9.toNat ≤ 11728124029610)) (by omega)) (Below.refl _ _) (Nat.le_refl _) ?_
                  intro v414 w27 Ec hb hg_ hnew_
                  clear hg_ hnew_
                  (first | rw [← Dh.out] at Ec | (simp only [Int.reduceToNat] at Ec; rw [← Dh.out] at Ec))
                  have Bt := am_ (Kd.N_lower (Kd.N_mono (ok' := fun k_ => (w.heap.size ≤ k_) ∧ some k_ ≠ (.slice Gc D9.length Gd : Value).ownBlock ∧ k_ ≠ B1 ∧ k_ ≠ Bb ∧ k_ ≠ B0) Ec (fun k_ hk_ => ⟨(Nat.le_trans (below_size HB.out) hk_), (Kd.fresh' (Kd.R_lt (by (with_reducible repeat (first | apply Kd.R_alloc | apply Kd.R_drewN | apply Kd.R_drew)); exact Br.out)) k_ hk_), (Kd.freshB (g := B1) (o := .cells #[.int .i64 B9, .int .i64 Be, .int .i64 Bf, .int .i64 Bg, .int .i64 Bh, .int .i64 Bi, .int .i64 Bj, .int .i64 Bk, .int .i64 Bd, .int .i64 Bl, .slice B7 B4.length B8] 24 (0, 0)) (by (with_reducible repeat (first | apply kn_ | apply kd_ | apply ka_)); exact B3.out) k_ hk_), (Kd.freshB (g := Bb) (o := .cells #[.int .i64 0, .string (⟨#[]⟩ : ByteArray), .slice none 0 0, .slice none 0 0] 32 (0, 0)) (by (with_reducible repeat (first | apply kn_ | apply kd_ | apply ka_)); exact B5.out) k_ hk_), (Kd.freshB (g := B0) (o := .cells #[.int .i64 B9, .int .i64 Be, .int .i64 Bf, .int .i64 Bg, .int .i64 Bh, .int .i64 Bi, .int .i64 Bj, .int .i64 Bk, .int .i64 Bd, .int .i64 Bl, .slice B7 B4.length B8, .slice A1 l1.length c1] 47 (0, 0)) (by (with_reducible repeat (first | apply kn_ | apply kd_ | apply ka_)); exact B2.out) k_ hk_)⟩)) (below_size HB.out))
                  replace Br := am_ (Kd.R_below Br.out hb)
                  replace B3 := bkb_ B3 hb
                  replace B5 := bkb_ B5 hb
                  replace B2 := bkb_ B2 hb
                  replace HB := bst_ HB hb
                  clear hb Ec
                  refine hK.out _ _ (and_11 B3.out (cells_12 B2.out)) (fun hHeld => ?_)
                  clear hK K
                  refine nor_ 39 ?_
                  exact norm_ (by first | (simp only [putAll, Act.put, zs_]; done) | (simp only [putAll, Act.put, zs_]; rfl)) (F6 ((.slice Gc D9.length Gd), v414) _ ⟨hHeld, (by (with_reducible repeat (first | apply Kd.R_alloc | apply Kd.R_drewN | apply Kd.R_drew)); exact Br.out), (by (with_reducible repeat (first | apply Kd.N_alloc | apply Kd.N_drewN | apply Kd.N_drew)); exact Bt.out), (by (with_reducible repeat (first | apply kn_ | apply kd_ | apply ka_)); exact B3.out), (by (with_reducible repeat (first | apply kn_ | apply kd_ | apply ka_)); exact B5.out), (by (with_reducible repeat (first | apply kn_ | apply kd_ | apply ka_)); exact B2.out), (by repeat (first | (with_reducible first | exact HB.out | apply ba_ | apply bn_ | apply bd_ | refine bs_ ?_ D0.out | refine bs_ ?_ D1.out | refine bs_ ?_ D2.out) | exact HB.out))⟩)
                 ·skip
                  refine box_step ?hg (N := 14) ?hd (cs := #[.int .i64 0, .string (⟨#[]⟩ : ByteArray), .slice none 0 0, .slice none 0 0]) (t := 32) ?hr ?_; (case hd => rfl); (case hg => rfl); (case hr => first | (go_simp; done) | (go_simp; rfl))
                  intro B6 hg w27 hbox hb
                  replace Br := am_ (Kd.R_below Br.out hb)
                  have Bn := am_ (hbox)
                  have Bz := gwk_ HB hg
                  have Bu := Bz
                  replace HB := bst_ HB hb
                  have Bc := nbk_ B3 hg
                  have Bp := nbs_ Bc
                  replace B3 := bkb_ B3 hb
                  have Bm := nbk_ B5 hg
                  have Bq := nbs_ Bm
                  replace B5 := bkb_ B5 hb
                  have Ba := nbk_ B2 hg
                  have Bo := nbs_ Ba
                  replace B2 := bkb_ B2 hb
                  clear hb hbox hg
                  refine hK.out _ _ (and_11 B3.out (cells_12 B2.out)) (fun hHeld => ?_)
                  clear hK K
                  refine nor_ 14 ?_
                  exact norm_ (by first | (simp only [putAll, Act.put, zs_]; done) | (simp only [putAll, Act.put, zs_]; rfl)) (F7 ((.slice Gc D9.length Gd), B6) _ ⟨hHeld, (by (with_reducible repeat (first | apply Kd.R_alloc | apply Kd.R_drewN | apply Kd.R_drew)); exact Br.out), (by (with_reducible repeat (first | apply kn_ | apply kd_ | apply ka_)); exact B3.out), (by (with_reducible repeat (first | apply kn_ | apply kd_ | apply ka_)); exact B5.out), (by (with_reducible repeat (first | apply kn_ | apply kd_ | apply ka_)); exact B2.out), (by (with_reducible repeat (first | apply kn_ | apply kd_ | apply ka_)); exact Bn.out), Bz.out, Bu.out, Bc.out, Bp.out, Bm.out, Bq.out, Ba.out, Bo.out, (by repeat (first | (with_reducible first | exact HB.out | apply ba_ | apply bn_ | apply bd_ | refine bs_ ?_ D0.out | refine bs_ ?_ D1.out | refine bs_ ?_ D2.out | refine bs_ ?_ Bu.out) | exact HB.out))⟩)
               ·skip
                rintro ⟨v414, B6⟩ w28 ⟨hS_, Dr, Ds, Dt, Du, Dy, E4, Ek, En, Eo, Ep, Di, Dj, Dk, E0⟩
                have Dd : Aside0 (Kd.N (Kd.slice 45 k45) 42 w28 w.heap.size (fun k_ => (w.heap.size ≤ k_) ∧ k_ ≠ B1 ∧ k_ ≠ Bb ∧ k_ ≠ B0 ∧ k_ ≠ B6) v414 y413) := ⟨Dr⟩
                have De : Aside0 (w28.heap[B1]? = some (.cells #[.int .i64 B9, .int .i64 Be, .int .i64 Bf, .int .i64 Bg, .int .i64 Bh, .int .i64 Bi, .int .i64 Bj, .int .i64 Bk, .int .i64 Bd, .int .i64 Bl, .slice B7 B4.length B8] 24 (0, 0))) := ⟨Ds⟩
                have Df : Aside0 (w28.heap[Bb]? = some (.cells #[.int .i64 0, .string (⟨#[]⟩ : ByteArray), .slice none 0 0, .slice none 0 0] 32 (0, 0))) := ⟨Dt⟩
                have Dg : Aside0 (w28.heap[B0]? = some (.cells #[.int .i64 B9, .int .i64 Be, .int .i64 Bf, .int .i64 Bg, .int .i64 Bh, .int .i64 Bi, .int .i64 Bj, .int .i64 Bk, .int .i64 Bd, .int .i64 Bl, .slice B7 B4.length B8, .slice A1 l1.length c1] 47 (0, 0))) := ⟨Du⟩
                have Dq : Aside0 (w28.heap[B6]? = some (.cells #[.int .i64 0, .string (⟨#[]⟩ : ByteArray), .slice none 0 0, .slice none 0 0] 32 (0, 0))) := ⟨Dy⟩
                have E2 : Aside0 (w.heap.size ≤ B6) := ⟨E4⟩
                have Ea : Aside0 (w.heap.size ≤ B6) := ⟨Ek⟩
                have Eg : Aside0 (B1 ≠ B6) := ⟨En⟩
                have Eh : Aside0 (B6 ≠ B1) := ⟨Eo⟩
                have Eq : Aside0 (Bb ≠ B6) := ⟨Ep⟩
                have Dl : Aside0 (B6 ≠ Bb) := ⟨Di⟩
                have Dm : Aside0 (B0 ≠ B6) := ⟨Dj⟩
                have Dn : Aside0 (B6 ≠ B0) := ⟨Dk⟩
                have E1 : Aside0 (Below w.heap.size w w28) := ⟨E0⟩
                clear B3
                clear B5
                clear B2
                clear HB
                clear Dr Ds Dt Du Dy E4 Ek En Eo Ep Di Dj Dk E0
                have Bt := Dd
                have B3 := De
                have B5 := Df
                have B2 := Dg
                have Bn := Dq
                have Bz := E2
                have Bu := Ea
                have Bc := Eg
                have Bp := Eh
                have Bm := Eq
                have Bq := Dl
                have Ba := Dm
                have Bo := Dn
                have HB := E1
                clear Dd De Df Dg Dq E2 Ea Eg Eh Eq Dl Dm Dn E1
                have hHeld : ce_ w28 B1 0 (.int .i64 B9) ∧ ce_ w28 B1 1 (.int .i64 Be) ∧ ce_ w28 B1 2 (.int .i64 Bf) ∧ ce_ w28 B1 3 (.int .i64 Bg) ∧ ce_ w28 B1 4 (.int .i64 Bh) ∧ ce_ w28 B1 5 (.int .i64 Bi) ∧ ce_ w28 B1 6 (.int .i64 Bj) ∧ ce_ w28 B1 7 (.int .i64 Bk) ∧ ce_ w28 B1 8 (.int .i64 Bd) ∧ ce_ w28 B1 9 (.int .i64 Bl) ∧ ce_ w28 B1 10 (.slice B7 B4.length B8) ∧ ce_ w28 B0 0 (.int .i64 B9) ∧ ce_ w28 B0 1 (.int .i64 Be) ∧ ce_ w28 B0 2 (.int .i64 Bf) ∧ ce_ w28 B0 3 (.int .i64 Bg) ∧ ce_ w28 B0 4 (.int .i64 Bh) ∧ ce_ w28 B0 5 (.int .i64 Bi) ∧ ce_ w28 B0 6 (.int .i64 Bj) ∧ ce_ w28 B0 7 (.int .i64 Bk) ∧ ce_ w28 B0 8 (.int .i64 Bd) ∧ ce_ w28 B0 9 (.int .i64 Bl) ∧ ce_ w28 B0 10 (.slice B7 B4.length B8) ∧ ce_ w28 B0 11 (.slice A1 l1.length c1) := hS_
                refine norm_ (a' := ?_) ?_ ?_
                rotate_left
                ·simp only [putAll, Act.put, zs_]
                 rfl
                refine oon_ 7 (some 32) rfl rfl (one_of HT_.out (by kernel_rfl)) (fun K hK => ?_)
                refine gos_ Try.func21 (round_machine_honest.calls k B9 Be Bf Bg Bh Bi Bj Bk Bd Bl _ _ B4 _ _ l1 _ _ (Kd.C_below D7.out HB.out) D8.out (Kd.C_below Fm.out HB.out) Fn.out Lj.out) ?_
                rintro e w29 ⟨v407, rfl, E9, hb⟩
                refine ⟨_, rfl, ?_⟩
                replace Bt := am_ (Kd.N_elder' (by (with_reducible repeat (first | apply Kd.N_alloc | apply Kd.N_drewN | apply Kd.N_drew)); exact Bt.out) (Kd.R_base E9) hb)
                have Br := am_ (Kd.R_lower (Kd.R_newM (M := fun k_ => (w.heap.size ≤ k_)) E9 (below_size HB.out) (fun k_ h_ => h_)) (below_size HB.out))
                replace B3 := bkb_ B3 hb
                replace B5 := bkb_ B5 hb
                replace B2 := bkb_ B2 hb
                replace Bn := bkb_ Bn hb
                replace HB := bst_ HB hb
                (try clear hb)
                (try clear hb2)
                (try clear hk)
                (try clear hi)
                (try clear E9)
                refine hK.out _ _ (and_11 B3.out (cells_12 B2.out)) (fun hHeld => ?_)
                clear hK K
                refine nor_ 32 ?_
                exact norm_ (by first | (simp only [putAll, Act.put, zs_]; done) | (simp only [putAll, Act.put, zs_]; rfl)) (Eb (v407, v414, B6) _ ⟨hHeld, (by (with_reducible repeat (first | apply Kd.R_alloc | apply Kd.R_drewN | apply Kd.R_drew)); exact Kd.R_mono Br.out (fun _ hk => hk.1)), (by (with_reducible repeat (first | apply Kd.N_alloc | apply Kd.N_drewN | apply Kd.N_drew)); exact Kd.N_mono Bt.out (fun _ hk => ⟨hk.1.1, ⟨hk.2, ⟨hk.1.2.1, ⟨hk.1.2.2.1, ⟨hk.1.2.2.2.1, hk.1.2.2.2.2⟩⟩⟩⟩⟩)), (by (with_reducible repeat (first | apply kn_ | apply kd_ | apply ka_)); exact B3.out), (by (with_reducible repeat (first | apply kn_ | apply kd_ | apply ka_)); exact B5.out), (by (with_reducible repeat (first | apply kn_ | apply kd_ | apply ka_)); exact B2.out), (by (with_reducible repeat (first | apply kn_ | apply kd_ | apply ka_)); exact Bn.out), Bz.out, Bu.out, Bc.out, Bp.out, Bm.out, Bq.out, Ba.out, Bo.out, (by repeat (first | (with_reducible first | exact HB.out | apply ba_ | apply bn_ | apply bd_ | refine bs_ ?_ D0.out | refine bs_ ?_ D1.out | refine bs_ ?_ D2.out | refine bs_ ?_ Bu.out) | exact HB.out))⟩)
              ·skip
               rintro ⟨v407, B6⟩ w27 ⟨hS_, Dr, Ds, Dt, Du, Dy, E4, Ek, En, Eo, Ep, Di, Dj, Dk, E0⟩
               have Dd : Aside0 (Kd.R (Kd.int .i64) 3 w27 w.heap.size (fun k_ => (w.heap.size ≤ k_)) v407 D9) := ⟨Dr⟩
               have De : Aside0 (w27.heap[B1]? = some (.cells #[.int .i64 B9, .int .i64 Be, .int .i64 Bf, .int .i64 Bg, .int .i64 Bh, .int .i64 Bi, .int .i64 Bj, .int .i64 Bk, .int .i64 Bd, .int .i64 Bl, .slice B7 B4.length B8] 24 (0, 0))) := ⟨Ds⟩
               have Df : Aside0 (w27.heap[Bb]? = some (.cells #[.int .i64 0, .string (⟨#[]⟩ : ByteArray), .slice none 0 0, .slice none 0 0] 32 (0, 0))) := ⟨Dt⟩
               have Dg : Aside0 (w27.heap[B0]? = some (.cells #[.int .i64 B9, .int .i64 Be, .int .i64 Bf, .int .i64 Bg, .int .i64 Bh, .int .i64 Bi, .int .i64 Bj, .int .i64 Bk, .int .i64 Bd, .int .i64 Bl, .slice B7 B4.length B8, .slice A1 l1.length c1] 47 (0, 0))) := ⟨Du⟩
               have Dq : Aside0 (w27.heap[B6]? = some (.cells #[.int .i64 0, .string (⟨#[]⟩ : ByteArray), .slice none 0 0, .slice none 0 0] 32 (0, 0))) := ⟨Dy⟩
               have E2 : Aside0 (w.heap.size ≤ B6) := ⟨E4⟩
               have Ea : Aside0 (w.heap.size ≤ B6) := ⟨Ek⟩
               have Eg : Aside0 (B1 ≠ B6) := ⟨En⟩
               have Eh : Aside0 (B6 ≠ B1) := ⟨Eo⟩
               have Eq : Aside0 (Bb ≠ B6) := ⟨Ep⟩
               have Dl : Aside0 (B6 ≠ Bb) := ⟨Di⟩
               have Dm : Aside0 (B0 ≠ B6) := ⟨Dj⟩
               have Dn : Aside0 (B6 ≠ B0) := ⟨Dk⟩
               have E1 : Aside0 (Below w.heap.size w w27) := ⟨E0⟩
               clear B3
               clear B5
               clear B2
               clear HB
               clear Dr Ds Dt Du Dy E4 Ek En Eo Ep Di Dj Dk E0
               have Br := Dd
               have B3 := De
               have B5 := Df
               have B2 := Dg
               have Bn := Dq
               have Bz := E2
               have Bu := Ea
               have Bc := Eg
               have Bp := Eh
               have Bm := Eq
               have Bq := Dl
               have Ba := Dm
               have Bo := Dn
               have HB := E1
               clear Dd De Df Dg Dq E2 Ea Eg Eh Eq Dl Dm Dn E1
               have hHeld : ce_ w27 B1 0 (.int .i64 B9) ∧ ce_ w27 B1 1 (.int .i64 Be) ∧ ce_ w27 B1 2 (.int .i64 Bf) ∧ ce_ w27 B1 3 (.int .i64 Bg) ∧ ce_ w27 B1 4 (.int .i64 Bh) ∧ ce_ w27 B1 5 (.int .i64 Bi) ∧ ce_ w27 B1 6 (.int .i64 Bj) ∧ ce_ w27 B1 7 (.int .i64 Bk) ∧ ce_ w27 B1 8 (.int .i64 Bd) ∧ ce_ w27 B1 9 (.int .i64 Bl) ∧ ce_ w27 B1 10 (.slice B7 B4.length B8) ∧ ce_ w27 B0 0 (.int .i64 B9) ∧ ce_ w27 B0 1 (.int .i64 Be) ∧ ce_ w27 B0 2 (.int .i64 Bf) ∧ ce_ w27 B0 3 (.int .i64 Bg) ∧ ce_ w27 B0 4 (.int .i64 Bh) ∧ ce_ w27 B0 5 (.int .i64 Bi) ∧ ce_ w27 B0 6 (.int .i64 Bj) ∧ ce_ w27 B0 7 (.int .i64 Bk) ∧ ce_ w27 B0 8 (.int .i64 Bd) ∧ ce_ w27 B0 9 (.int .i64 Bl) ∧ ce_ w27 B0 10 (.slice B7 B4.length B8) ∧ ce_ w27 B0 11 (.slice A1 l1.length c1) := hS_
               obtain ⟨Gw, Gx, Jm⟩ := Kd.R_slice Br.out
               (first | subst Jm | (injection Jm with f1_ f2_ f3_; have El := f1_.symm; have Em := f3_.symm; clear f1_ f2_ f3_; subst El; subst Em))
               refine norm_ (a' := ?_) ?_ ?_
               rotate_left
               ·simp only [putAll, Act.put, zs_]
                rfl
               refine two_ (i := 8) (j := 14) (Ni := some 33) (Nj := some 39) #[true, true, true, true, true, true, true, true, true, true, true, false, true, true, false, false, true, false] #[true, true, true, true, true, true, true, true, false, true, true, false, true, true, true, false, true, false] rfl rfl rfl rfl (two_of HT_.out (by kernel_rfl)) (by decide) (by decide) (fun K hK => ?_) (fun K hK => ?_)
               ·skip
                refine gos_ Try.func20 (roster_Mark.calls k B9 Be Bf Bg Bh Bi Bj Bk Bd Bl _ _ B4 a3 _ _ D9 _ _ (Kd.C_below D7.out HB.out) D8.out (Kd.R_reads' Br.out).2.2 (Kd.R_reads' Br.out).2.1 Lk.out) ?_
                rintro e w29 ⟨rfl, hb⟩
                refine ⟨_, rfl, ?_⟩
                replace Br := am_ (Kd.R_below Br.out hb)
                replace B3 := bkb_ B3 hb
                replace B5 := bkb_ B5 hb
                replace B2 := bkb_ B2 hb
                replace Bn := bkb_ Bn hb
                replace HB := bst_ HB hb
                (try clear hb)
                (try clear hb2)
                (try clear hk)
                (try clear hi)
                refine hK.out _ _ (and_11 B3.out (cells_12 B2.out)) (fun hHeld => ?_)
                clear hK K
                refine nor_ 33 ?_
                exact norm_ (by first | (simp only [putAll, Act.put, zs_]; done) | (simp only [putAll, Act.put, zs_]; rfl)) (Ev (.slice Gw D9.length Gx, B6) _ ⟨hHeld, (by (with_reducible repeat (first | apply Kd.R_alloc | apply Kd.R_drewN | apply Kd.R_drew)); exact Br.out), (by (with_reducible repeat (first | apply kn_ | apply kd_ | apply ka_)); exact B3.out), (by (with_reducible repeat (first | apply kn_ | apply kd_ | apply ka_)); exact B5.out), (by (with_reducible repeat (first | apply kn_ | apply kd_ | apply ka_)); exact B2.out), (by (with_reducible repeat (first | apply kn_ | apply kd_ | apply ka_)); exact Bn.out), Bz.out, Bu.out, Bc.out, Bp.out, Bm.out, Bq.out, Ba.out, Bo.out, (by repeat (first | (with_reducible first | exact HB.out | apply ba_ | apply bn_ | apply bd_ | refine bs_ ?_ D0.out | refine bs_ ?_ D1.out | refine bs_ ?_ D2.out | refine bs_ ?_ Bu.out) | exact HB.out))⟩)
               ·skip
                refine Kd.N_make_step (Kd.slice 45 k45) _ 42 (by rfl) (N' := 39) rfl 28 _ _ rfl B9 rfl rfl Try.underlying28 (.slice none 0 0) 24 info42 rfl (by decide) (by omega) [] (ok := fun k_ => w27.heap.size ≤ k_) (okp := fun _ => False) (Kd.FK_slice_mk (Nat.le_refl _) (Kd.F_nil _ _ _)) (fun _ hk => hk.elim) (Nat.le_refl _) (of_decide_eq_true (by first | (with_reducible assumption) | assumption)) (Nat.le_trans (Nat.mul_le_mul_right _ (of_decide_eq_true (by first | (with_reducible assumption) | assumption) : B9.toNat ≤ 11728124029610)) (by omega)) (Below.refl _ _) (Nat.le_refl _) ?_
                intro v414 w28 G1 hb hg_ hnew_
                clear hg_ hnew_
                (first | rw [← Dh.out] at G1 | (simp only [Int.reduceToNat] at G1; rw [← Dh.out] at G1))
                have Bt := am_ (Kd.N_lower (Kd.N_mono (ok' := fun k_ => (w.heap.size ≤ k_) ∧ some k_ ≠ (.slice Gw D9.length Gx : Value).ownBlock ∧ k_ ≠ B1 ∧ k_ ≠ Bb ∧ k_ ≠ B0 ∧ k_ ≠ B6) G1 (fun k_ hk_ => ⟨(Nat.le_trans (below_size HB.out) hk_), (Kd.fresh' (Kd.R_lt (by (with_reducible repeat (first | apply Kd.R_alloc | apply Kd.R_drewN | apply Kd.R_drew)); exact Br.out)) k_ hk_), (Kd.freshB (g := B1) (o := .cells #[.int .i64 B9, .int .i64 Be, .int .i64 Bf, .int .i64 Bg, .int .i64 Bh, .int .i64 Bi, .int .i64 Bj, .int .i64 Bk, .int .i64 Bd, .int .i64 Bl, .slice B7 B4.length B8] 24 (0, 0)) (by (with_reducible repeat (first | apply kn_ | apply kd_ | apply ka_)); exact B3.out) k_ hk_), (Kd.freshB (g := Bb) (o := .cells #[.int .i64 0, .string (⟨#[]⟩ : ByteArray), .slice none 0 0, .slice none 0 0] 32 (0, 0)) (by (with_reducible repeat (first | apply kn_ | apply kd_ | apply ka_)); exact B5.out) k_ hk_), (Kd.freshB (g := B0) (o := .cells #[.int .i64 B9, .int .i64 Be, .int .i64 Bf, .int .i64 Bg, .int .i64 Bh, .int .i64 Bi, .int .i64 Bj, .int .i64 Bk, .int .i64 Bd, .int .i64 Bl, .slice B7 B4.length B8, .slice A1 l1.length c1] 47 (0, 0)) (by (with_reducible repeat (first | apply kn_ | apply kd_ | apply ka_)); exact B2.out) k_ hk_), (Kd.freshB (g := B6) (o := .cells #[.int .i64 0, .string (⟨#[]⟩ : ByteArray), .slice none 0 0, .slice none 0 0] 32 (0, 0)) (by (with_reducible repeat (first | apply kn_ | apply kd_ | apply ka_)); exact Bn.out) k_ hk_)⟩)) (below_size HB.out))
                replace Br := am_ (Kd.R_below Br.out hb)
                replace B3 := bkb_ B3 hb
                replace B5 := bkb_ B5 hb
                replace B2 := bkb_ B2 hb
                replace Bn := bkb_ Bn hb
                replace HB := bst_ HB hb
                clear hb G1
                refine hK.out _ _ (and_11 B3.out (cells_12 B2.out)) (fun hHeld => ?_)
                clear hK K
                refine nor_ 39 ?_
                exact norm_ (by first | (simp only [putAll, Act.put, zs_]; done) | (simp only [putAll, Act.put, zs_]; rfl)) (Eb ((.slice Gw D9.length Gx), v414, B6) _ ⟨hHeld, (by (with_reducible repeat (first | apply Kd.R_alloc | apply Kd.R_drewN | apply Kd.R_drew)); exact Br.out), (by (with_reducible repeat (first | apply Kd.N_alloc | apply Kd.N_drewN | apply Kd.N_drew)); exact Bt.out), (by (with_reducible repeat (first | apply kn_ | apply kd_ | apply ka_)); exact B3.out), (by (with_reducible repeat (first | apply kn_ | apply kd_ | apply ka_)); exact B5.out), (by (with_reducible repeat (first | apply kn_ | apply kd_ | apply ka_)); exact B2.out), (by (with_reducible repeat (first | apply kn_ | apply kd_ | apply ka_)); exact Bn.out), Bz.out, Bu.out, Bc.out, Bp.out, Bm.out, Bq.out, Ba.out, Bo.out, (by repeat (first | (with_reducible first | exact HB.out | apply ba_ | apply bn_ | apply bd_ | refine bs_ ?_ D0.out | refine bs_ ?_ D1.out | refine bs_ ?_ D2.out | refine bs_ ?_ Bu.out) | exact HB.out))⟩)
             ·skip
              rintro ⟨v407, v414⟩ w28 ⟨hS_, Dr, Ds, Dt, Du, Dy, E4⟩
              have Dd : Aside0 (Kd.R (Kd.int .i64) 3 w28 w.heap.size (fun k_ => (w.heap.size ≤ k_)) v407 D9) := ⟨Dr⟩
              have De : Aside0 (Kd.N (Kd.slice 45 k45) 42 w28 w.heap.size (fun k_ => (w.heap.size ≤ k_) ∧ some k_ ≠ (v407 : Value).ownBlock ∧ k_ ≠ B1 ∧ k_ ≠ Bb ∧ k_ ≠ B0) v414 y413) := ⟨Ds⟩
              have Df : Aside0 (w28.heap[B1]? = some (.cells #[.int .i64 B9, .int .i64 Be, .int .i64 Bf, .int .i64 Bg, .int .i64 Bh, .int .i64 Bi, .int .i64 Bj, .int .i64 Bk, .int .i64 Bd, .int .i64 Bl, .slice B7 B4.length B8] 24 (0, 0))) := ⟨Dt⟩
              have Dg : Aside0 (w28.heap[Bb]? = some (.cells #[.int .i64 0, .string (⟨#[]⟩ : ByteArray), .slice none 0 0, .slice none 0 0] 32 (0, 0))) := ⟨Du⟩
              have Dq : Aside0 (w28.heap[B0]? = some (.cells #[.int .i64 B9, .int .i64 Be, .int .i64 Bf, .int .i64 Bg, .int .i64 Bh, .int .i64 Bi, .int .i64 Bj, .int .i64 Bk, .int .i64 Bd, .int .i64 Bl, .slice B7 B4.length B8, .slice A1 l1.length c1] 47 (0, 0))) := ⟨Dy⟩
              have E2 : Aside0 (Below w.heap.size w w28) := ⟨E4⟩
              clear B3
              clear B5
              clear B2
              clear HB
              clear Dr Ds Dt Du Dy E4
              have Br := Dd
              have Bt := De
              have B3 := Df
              have B5 := Dg
              have B2 := Dq
              have HB := E2
              clear Dd De Df Dg Dq E2
              have hHeld : ce_ w28 B1 0 (.int .i64 B9) ∧ ce_ w28 B1 1 (.int .i64 Be) ∧ ce_ w28 B1 2 (.int .i64 Bf) ∧ ce_ w28 B1 3 (.int .i64 Bg) ∧ ce_ w28 B1 4 (.int .i64 Bh) ∧ ce_ w28 B1 5 (.int .i64 Bi) ∧ ce_ w28 B1 6 (.int .i64 Bj) ∧ ce_ w28 B1 7 (.int .i64 Bk) ∧ ce_ w28 B1 8 (.int .i64 Bd) ∧ ce_ w28 B1 9 (.int .i64 Bl) ∧ ce_ w28 B1 10 (.slice B7 B4.length B8) ∧ ce_ w28 B0 0 (.int .i64 B9) ∧ ce_ w28 B0 1 (.int .i64 Be) ∧ ce_ w28 B0 2 (.int .i64 Bf) ∧ ce_ w28 B0 3 (.int .i64 Bg) ∧ ce_ w28 B0 4 (.int .i64 Bh) ∧ ce_ w28 B0 5 (.int .i64 Bi) ∧ ce_ w28 B0 6 (.int .i64 Bj) ∧ ce_ w28 B0 7 (.int .i64 Bk) ∧ ce_ w28 B0 8 (.int .i64 Bd) ∧ ce_ w28 B0 9 (.int .i64 Bl) ∧ ce_ w28 B0 10 (.slice B7 B4.length B8) ∧ ce_ w28 B0 11 (.slice A1 l1.length c1) := hS_
              obtain ⟨Jn, Jo, Jp⟩ := Kd.R_slice Br.out
              (first | subst Jp | (injection Jp with f1_ f2_ f3_; have El := f1_.symm; have Em := f3_.symm; clear f1_ f2_ f3_; subst El; subst Em))
              refine norm_ (a' := ?_) ?_ ?_
              rotate_left
              ·simp only [putAll, Act.put, zs_]
               rfl
              refine two_ (i := 8) (j := 16) (Ni := some 33) (Nj := some 14) #[true, true, true, true, true, true, true, true, true, true, true, false, true, true, true, false, false, false] #[true, true, true, true, true, true, true, true, false, true, true, false, true, true, true, false, true, false] rfl rfl rfl rfl (two_of HT_.out (by kernel_rfl)) (by decide) (by decide) (fun K hK => ?_) (fun K hK => ?_)
              ·skip
               refine gos_ Try.func20 (roster_Mark.calls k B9 Be Bf Bg Bh Bi Bj Bk Bd Bl _ _ B4 a3 _ _ D9 _ _ (Kd.C_below D7.out HB.out) D8.out (Kd.R_reads' Br.out).2.2 (Kd.R_reads' Br.out).2.1 Lk.out) ?_
               rintro e w30 ⟨rfl, hb⟩
               refine ⟨_, rfl, ?_⟩
               replace Br := am_ (Kd.R_below Br.out hb)
               replace Bt := am_ (Kd.N_below Bt.out hb)
               replace B3 := bkb_ B3 hb
               replace B5 := bkb_ B5 hb
               replace B2 := bkb_ B2 hb
               replace HB := bst_ HB hb
               (try clear hb)
               (try clear hb2)
               (try clear hk)
               (try clear hi)
               refine hK.out _ _ (and_11 B3.out (cells_12 B2.out)) (fun hHeld => ?_)
               clear hK K
               refine nor_ 33 ?_
               exact norm_ (by first | (simp only [putAll, Act.put, zs_]; done) | (simp only [putAll, Act.put, zs_]; rfl)) (Eu (.slice Jn D9.length Jo, v414) _ ⟨hHeld, (by (with_reducible repeat (first | apply Kd.R_alloc | apply Kd.R_drewN | apply Kd.R_drew)); exact Br.out), (by (with_reducible repeat (first | apply Kd.N_alloc | apply Kd.N_drewN | apply Kd.N_drew)); exact Bt.out), (by (with_reducible repeat (first | apply kn_ | apply kd_ | apply ka_)); exact B3.out), (by (with_reducible repeat (first | apply kn_ | apply kd_ | apply ka_)); exact B5.out), (by (with_reducible repeat (first | apply kn_ | apply kd_ | apply ka_)); exact B2.out), (by repeat (first | (with_reducible first | exact HB.out | apply ba_ | apply bn_ | apply bd_ | refine bs_ ?_ D0.out | refine bs_ ?_ D1.out | refine bs_ ?_ D2.out) | exact HB.out))⟩)
              ·skip
               refine box_step ?hg (N := 14) ?hd (cs := #[.int .i64 0, .string (⟨#[]⟩ : ByteArray), .slice none 0 0, .slice none 0 0]) (t := 32) ?hr ?_; (case hd => rfl); (case hg => rfl); (case hr => first | (go_simp; done) | (go_simp; rfl))
               intro B6 hg w29 hbox hb
               replace Br := am_ (Kd.R_below Br.out hb)
               replace Bt := am_ (Kd.N_below (Kd.N_elderB (by (with_reducible repeat (first | apply Kd.N_alloc | apply Kd.N_drewN | apply Kd.N_drew)); exact Bt.out) B6 (Nat.le_of_eq hg.symm)) hb)
               have Bn := am_ (hbox)
               have Bz := gwk_ HB hg
               have Bu := Bz
               replace HB := bst_ HB hb
               have Bc := nbk_ B3 hg
               have Bp := nbs_ Bc
               replace B3 := bkb_ B3 hb
               have Bm := nbk_ B5 hg
               have Bq := nbs_ Bm
               replace B5 := bkb_ B5 hb
               have Ba := nbk_ B2 hg
               have Bo := nbs_ Ba
               replace B2 := bkb_ B2 hb
               clear hb hbox hg
               refine hK.out _ _ (and_11 B3.out (cells_12 B2.out)) (fun hHeld => ?_)
               clear hK K
               refine nor_ 14 ?_
               exact norm_ (by first | (simp only [putAll, Act.put, zs_]; done) | (simp only [putAll, Act.put, zs_]; rfl)) (Eb ((.slice Jn D9.length Jo), v414, B6) _ ⟨hHeld, (by (with_reducible repeat (first | apply Kd.R_alloc | apply Kd.R_drewN | apply Kd.R_drew)); exact Br.out), (by (with_reducible repeat (first | apply Kd.N_alloc | apply Kd.N_drewN | apply Kd.N_drew)); exact Kd.N_mono Bt.out (fun _ hk => ⟨hk.1.1, ⟨hk.1.2.1, ⟨hk.1.2.2.1, ⟨hk.1.2.2.2.1, ⟨hk.1.2.2.2.2, hk.2⟩⟩⟩⟩⟩)), (by (with_reducible repeat (first | apply kn_ | apply kd_ | apply ka_)); exact B3.out), (by (with_reducible repeat (first | apply kn_ | apply kd_ | apply ka_)); exact B5.out), (by (with_reducible repeat (first | apply kn_ | apply kd_ | apply ka_)); exact B2.out), (by (with_reducible repeat (first | apply kn_ | apply kd_ | apply ka_)); exact Bn.out), Bz.out, Bu.out, Bc.out, Bp.out, Bm.out, Bq.out, Ba.out, Bo.out, (by repeat (first | (with_reducible first | exact HB.out | apply ba_ | apply bn_ | apply bd_ | refine bs_ ?_ D0.out | refine bs_ ?_ D1.out | refine bs_ ?_ D2.out | refine bs_ ?_ Bu.out) | exact HB.out))⟩)
            ·skip
             rintro v407 w28 ⟨hS_, Dr, Ds, Dt, Du, Dy⟩
             have Dd : Aside0 (Kd.R (Kd.int .i64) 3 w28 w.heap.size (fun k_ => (w.heap.size ≤ k_)) v407 D9) := ⟨Dr⟩
             have De : Aside0 (w28.heap[B1]? = some (.cells #[.int .i64 B9, .int .i64 Be, .int .i64 Bf, .int .i64 Bg, .int .i64 Bh, .int .i64 Bi, .int .i64 Bj, .int .i64 Bk, .int .i64 Bd, .int .i64 Bl, .slice B7 B4.length B8] 24 (0, 0))) := ⟨Ds⟩
             have Df : Aside0 (w28.heap[Bb]? = some (.cells #[.int .i64 0, .string (⟨#[]⟩ : ByteArray), .slice none 0 0, .slice none 0 0] 32 (0, 0))) := ⟨Dt⟩
             have Dg : Aside0 (w28.heap[B0]? = some (.cells #[.int .i64 B9, .int .i64 Be, .int .i64 Bf, .int .i64 Bg, .int .i64 Bh, .int .i64 Bi, .int .i64 Bj, .int .i64 Bk, .int .i64 Bd, .int .i64 Bl, .slice B7 B4.length B8, .slice A1 l1.length c1] 47 (0, 0))) := ⟨Du⟩
             have Dq : Aside0 (Below w.heap.size w w28) := ⟨Dy⟩
             clear B3
             clear B5
             clear B2
             clear HB
             clear Dr Ds Dt Du Dy
             have Br := Dd
             have B3 := De
             have B5 := Df
             have B2 := Dg
             have HB := Dq
             clear Dd De Df Dg Dq
             have hHeld : ce_ w28 B1 0 (.int .i64 B9) ∧ ce_ w28 B1 1 (.int .i64 Be) ∧ ce_ w28 B1 2 (.int .i64 Bf) ∧ ce_ w28 B1 3 (.int .i64 Bg) ∧ ce_ w28 B1 4 (.int .i64 Bh) ∧ ce_ w28 B1 5 (.int .i64 Bi) ∧ ce_ w28 B1 6 (.int .i64 Bj) ∧ ce_ w28 B1 7 (.int .i64 Bk) ∧ ce_ w28 B1 8 (.int .i64 Bd) ∧ ce_ w28 B1 9 (.int .i64 Bl) ∧ ce_ w28 B1 10 (.slice B7 B4.length B8) ∧ ce_ w28 B0 0 (.int .i64 B9) ∧ ce_ w28 B0 1 (.int .i64 Be) ∧ ce_ w28 B0 2 (.int .i64 Bf) ∧ ce_ w28 B0 3 (.int .i64 Bg) ∧ ce_ w28 B0 4 (.int .i64 Bh) ∧ ce_ w28 B0 5 (.int .i64 Bi) ∧ ce_ w28 B0 6 (.int .i64 Bj) ∧ ce_ w28 B0 7 (.int .i64 Bk) ∧ ce_ w28 B0 8 (.int .i64 Bd) ∧ ce_ w28 B0 9 (.int .i64 Bl) ∧ ce_ w28 B0 10 (.slice B7 B4.length B8) ∧ ce_ w28 B0 11 (.slice A1 l1.length c1) := hS_
             refine norm_ (a' := ?_) ?_ ?_
             rotate_left
             ·simp only [putAll, Act.put, zs_]
              rfl
             refine three_ (i := 11) (j := 14) (k := 16) (Ni := some 36) (Nj := some 39) (Nk := some 14) #[true, true, true, true, true, true, true, true, true, true, true, true, true, true, false, false, false, false] #[true, true, true, true, true, true, true, true, true, true, true, false, true, true, true, false, false, false] #[true, true, true, true, true, true, true, true, true, true, true, false, true, true, false, false, true, false] rfl rfl rfl rfl rfl rfl (three_of HT_.out (by kernel_rfl)) (by decide) (by decide) (by decide) (fun K hK => ?_) (fun K hK => ?_) (fun K hK => ?_)
             ·skip
              refine gos_ Try.func22 (round_machine_lines.calls k B9 Be Bf Bg Bh Bi Bj Bk Bd Bl _ _ B4 _ _ l1 _ _ l4 _ _ (Kd.C_below D7.out HB.out) D8.out (Kd.C_below Fm.out HB.out) Fn.out (Kd.C_below Lh.out HB.out) Li.out Ll.out) ?_
              rintro e w29 ⟨v411, rfl, E9, hb⟩
              refine ⟨_, rfl, ?_⟩
              replace Br := am_ (Kd.R_below Br.out hb)
              have D3 := am_ (Kd.R_lower (Kd.R_newM (M := fun k_ => (w.heap.size ≤ k_)) E9 (below_size HB.out) (fun k_ h_ => h_)) (below_size HB.out))
              replace B3 := bkb_ B3 hb
              replace B5 := bkb_ B5 hb
              replace B2 := bkb_ B2 hb
              replace HB := bst_ HB hb
              (try clear hb)
              (try clear hb2)
              (try clear hk)
              (try clear hi)
              (try clear E9)
              refine hK.out _ _ (and_11 B3.out (cells_12 B2.out)) (fun hHeld => ?_)
              clear hK K
              refine nor_ 36 ?_
              exact norm_ (by first | (simp only [putAll, Act.put, zs_]; done) | (simp only [putAll, Act.put, zs_]; rfl)) (Fb (v407, v411) _ ⟨hHeld, (by (with_reducible repeat (first | apply Kd.R_alloc | apply Kd.R_drewN | apply Kd.R_drew)); exact Br.out), (by (with_reducible repeat (first | apply Kd.R_alloc | apply Kd.R_drewN | apply Kd.R_drew)); exact Kd.R_mono D3.out (fun _ hk => hk.1)), (by (with_reducible repeat (first | apply kn_ | apply kd_ | apply ka_)); exact B3.out), (by (with_reducible repeat (first | apply kn_ | apply kd_ | apply ka_)); exact B5.out), (by (with_reducible repeat (first | apply kn_ | apply kd_ | apply ka_)); exact B2.out), (by repeat (first | (with_reducible first | exact HB.out | apply ba_ | apply bn_ | apply bd_ | refine bs_ ?_ D0.out | refine bs_ ?_ D1.out | refine bs_ ?_ D2.out) | exact HB.out))⟩)
             ·skip
              refine Kd.N_make_step (Kd.slice 45 k45) _ 42 (by rfl) (N' := 39) rfl 28 _ _ rfl B9 rfl rfl Try.underlying28 (.slice none 0 0) 24 info42 rfl (by decide) (by omega) [] (ok := fun k_ => w28.heap.size ≤ k_) (okp := fun _ => False) (Kd.FK_slice_mk (Nat.le_refl _) (Kd.F_nil _ _ _)) (fun _ hk => hk.elim) (Nat.le_refl _) (of_decide_eq_true (by first | (with_reducible assumption) | assumption)) (Nat.le_trans (Nat.mul_le_mul_right _ (of_decide_eq_true (by first | (with_reducible assumption) | assumption) : B9.toNat ≤ 11728124029610)) (by omega)) (Below.refl _ _) (Nat.le_refl _) ?_
              intro v414 w29 G2 hb hg_ hnew_
              clear hg_ hnew_
              (first | rw [← Dh.out] at G2 | (simp only [Int.reduceToNat] at G2; rw [← Dh.out] at G2))
              have Bt := am_ (Kd.N_lower (Kd.N_mono (ok' := fun k_ => (w.heap.size ≤ k_) ∧ some k_ ≠ (v407 : Value).ownBlock ∧ k_ ≠ B1 ∧ k_ ≠ Bb ∧ k_ ≠ B0) G2 (fun k_ hk_ => ⟨(Nat.le_trans (below_size HB.out) hk_), (Kd.fresh' (Kd.R_lt (by (with_reducible repeat (first | apply Kd.R_alloc | apply Kd.R_drewN | apply Kd.R_drew)); exact Br.out)) k_ hk_), (Kd.freshB (g := B1) (o := .cells #[.int .i64 B9, .int .i64 Be, .int .i64 Bf, .int .i64 Bg, .int .i64 Bh, .int .i64 Bi, .int .i64 Bj, .int .i64 Bk, .int .i64 Bd, .int .i64 Bl, .slice B7 B4.length B8] 24 (0, 0)) (by (with_reducible repeat (first | apply kn_ | apply kd_ | apply ka_)); exact B3.out) k_ hk_), (Kd.freshB (g := Bb) (o := .cells #[.int .i64 0, .string (⟨#[]⟩ : ByteArray), .slice none 0 0, .slice none 0 0] 32 (0, 0)) (by (with_reducible repeat (first | apply kn_ | apply kd_ | apply ka_)); exact B5.out) k_ hk_), (Kd.freshB (g := B0) (o := .cells #[.int .i64 B9, .int .i64 Be, .int .i64 Bf, .int .i64 Bg, .int .i64 Bh, .int .i64 Bi, .int .i64 Bj, .int .i64 Bk, .int .i64 Bd, .int .i64 Bl, .slice B7 B4.length B8, .slice A1 l1.length c1] 47 (0, 0)) (by (with_reducible repeat (first | apply kn_ | apply kd_ | apply ka_)); exact B2.out) k_ hk_)⟩)) (below_size HB.out))
              replace Br := am_ (Kd.R_below Br.out hb)
              replace B3 := bkb_ B3 hb
              replace B5 := bkb_ B5 hb
              replace B2 := bkb_ B2 hb
              replace HB := bst_ HB hb
              clear hb G2
              refine hK.out _ _ (and_11 B3.out (cells_12 B2.out)) (fun hHeld => ?_)
              clear hK K
              refine nor_ 39 ?_
              exact norm_ (by first | (simp only [putAll, Act.put, zs_]; done) | (simp only [putAll, Act.put, zs_]; rfl)) (Eu (v407, v414) _ ⟨hHeld, (by (with_reducible repeat (first | apply Kd.R_alloc | apply Kd.R_drewN | apply Kd.R_drew)); exact Br.out), (by (with_reducible repeat (first | apply Kd.N_alloc | apply Kd.N_drewN | apply Kd.N_drew)); exact Bt.out), (by (with_reducible repeat (first | apply kn_ | apply kd_ | apply ka_)); exact B3.out), (by (with_reducible repeat (first | apply kn_ | apply kd_ | apply ka_)); exact B5.out), (by (with_reducible repeat (first | apply kn_ | apply kd_ | apply ka_)); exact B2.out), (by repeat (first | (with_reducible first | exact HB.out | apply ba_ | apply bn_ | apply bd_ | refine bs_ ?_ D0.out | refine bs_ ?_ D1.out | refine bs_ ?_ D2.out) | exact HB.out))⟩)
             ·skip
              refine box_step ?hg (N := 14) ?hd (cs := #[.int .i64 0, .string (⟨#[]⟩ : ByteArray), .slice none 0 0, .slice none 0 0]) (t := 32) ?hr ?_; (case hd => rfl); (case hg => rfl); (case hr => first | (go_simp; done) | (go_simp; rfl))
              intro B6 hg w29 hbox hb
              replace Br := am_ (Kd.R_below Br.out hb)
              have Bn := am_ (hbox)
              have Bz := gwk_ HB hg
              have Bu := Bz
              replace HB := bst_ HB hb
              have Bc := nbk_ B3 hg
              have Bp := nbs_ Bc
              replace B3 := bkb_ B3 hb
              have Bm := nbk_ B5 hg
              have Bq := nbs_ Bm
              replace B5 := bkb_ B5 hb
              have Ba := nbk_ B2 hg
              have Bo := nbs_ Ba
              replace B2 := bkb_ B2 hb
              clear hb hbox hg
              refine hK.out _ _ (and_11 B3.out (cells_12 B2.out)) (fun hHeld => ?_)
              clear hK K
              refine nor_ 14 ?_
              exact norm_ (by first | (simp only [putAll, Act.put, zs_]; done) | (simp only [putAll, Act.put, zs_]; rfl)) (Ev (v407, B6) _ ⟨hHeld, (by (with_reducible repeat (first | apply Kd.R_alloc | apply Kd.R_drewN | apply Kd.R_drew)); exact Br.out), (by (with_reducible repeat (first | apply kn_ | apply kd_ | apply ka_)); exact B3.out), (by (with_reducible repeat (first | apply kn_ | apply kd_ | apply ka_)); exact B5.out), (by (with_reducible repeat (first | apply kn_ | apply kd_ | apply ka_)); exact B2.out), (by (with_reducible repeat (first | apply kn_ | apply kd_ | apply ka_)); exact Bn.out), Bz.out, Bu.out, Bc.out, Bp.out, Bm.out, Bq.out, Ba.out, Bo.out, (by repeat (first | (with_reducible first | exact HB.out | apply ba_ | apply bn_ | apply bd_ | refine bs_ ?_ D0.out | refine bs_ ?_ D1.out | refine bs_ ?_ D2.out | refine bs_ ?_ Bu.out) | exact HB.out))⟩)
           ·skip
            rintro ⟨v407, v414, B6⟩ w29 ⟨hS_, Dr, Ds, Dt, Du, Dy, E4, Ek, En, Eo, Ep, Di, Dj, Dk, E0, Ew⟩
            have Dd : Aside0 (Kd.R (Kd.int .i64) 3 w29 w.heap.size (fun k_ => (w.heap.size ≤ k_)) v407 D9) := ⟨Dr⟩
            have De : Aside0 (Kd.N (Kd.slice 45 k45) 42 w29 w.heap.size (fun k_ => (w.heap.size ≤ k_) ∧ some k_ ≠ (v407 : Value).ownBlock ∧ k_ ≠ B1 ∧ k_ ≠ Bb ∧ k_ ≠ B0 ∧ k_ ≠ B6) v414 y413) := ⟨Ds⟩
            have Df : Aside0 (w29.heap[B1]? = some (.cells #[.int .i64 B9, .int .i64 Be, .int .i64 Bf, .int .i64 Bg, .int .i64 Bh, .int .i64 Bi, .int .i64 Bj, .int .i64 Bk, .int .i64 Bd, .int .i64 Bl, .slice B7 B4.length B8] 24 (0, 0))) := ⟨Dt⟩
            have Dg : Aside0 (w29.heap[Bb]? = some (.cells #[.int .i64 0, .string (⟨#[]⟩ : ByteArray), .slice none 0 0, .slice none 0 0] 32 (0, 0))) := ⟨Du⟩
            have Dq : Aside0 (w29.heap[B0]? = some (.cells #[.int .i64 B9, .int .i64 Be, .int .i64 Bf, .int .i64 Bg, .int .i64 Bh, .int .i64 Bi, .int .i64 Bj, .int .i64 Bk, .int .i64 Bd, .int .i64 Bl, .slice B7 B4.length B8, .slice A1 l1.length c1] 47 (0, 0))) := ⟨Dy⟩
            have E2 : Aside0 (w29.heap[B6]? = some (.cells #[.int .i64 0, .string (⟨#[]⟩ : ByteArray), .slice none 0 0, .slice none 0 0] 32 (0, 0))) := ⟨E4⟩
            have Ea : Aside0 (w.heap.size ≤ B6) := ⟨Ek⟩
            have Eg : Aside0 (w.heap.size ≤ B6) := ⟨En⟩
            have Eh : Aside0 (B1 ≠ B6) := ⟨Eo⟩
            have Eq : Aside0 (B6 ≠ B1) := ⟨Ep⟩
            have Dl : Aside0 (Bb ≠ B6) := ⟨Di⟩
            have Dm : Aside0 (B6 ≠ Bb) := ⟨Dj⟩
            have Dn : Aside0 (B0 ≠ B6) := ⟨Dk⟩
            have E1 : Aside0 (B6 ≠ B0) := ⟨E0⟩
            have Ex : Aside0 (Below w.heap.size w w29) := ⟨Ew⟩
            clear B3
            clear B5
            clear B2
            clear HB
            clear Dr Ds Dt Du Dy E4 Ek En Eo Ep Di Dj Dk E0 Ew
            have Br := Dd
            have Bt := De
            have B3 := Df
            have B5 := Dg
            have B2 := Dq
            have Bn := E2
            have Bz := Ea
            have Bu := Eg
            have Bc := Eh
            have Bp := Eq
            have Bm := Dl
            have Bq := Dm
            have Ba := Dn
            have Bo := E1
            have HB := Ex
            clear Dd De Df Dg Dq E2 Ea Eg Eh Eq Dl Dm Dn E1 Ex
            have hHeld : ce_ w29 B1 0 (.int .i64 B9) ∧ ce_ w29 B1 1 (.int .i64 Be) ∧ ce_ w29 B1 2 (.int .i64 Bf) ∧ ce_ w29 B1 3 (.int .i64 Bg) ∧ ce_ w29 B1 4 (.int .i64 Bh) ∧ ce_ w29 B1 5 (.int .i64 Bi) ∧ ce_ w29 B1 6 (.int .i64 Bj) ∧ ce_ w29 B1 7 (.int .i64 Bk) ∧ ce_ w29 B1 8 (.int .i64 Bd) ∧ ce_ w29 B1 9 (.int .i64 Bl) ∧ ce_ w29 B1 10 (.slice B7 B4.length B8) ∧ ce_ w29 B0 0 (.int .i64 B9) ∧ ce_ w29 B0 1 (.int .i64 Be) ∧ ce_ w29 B0 2 (.int .i64 Bf) ∧ ce_ w29 B0 3 (.int .i64 Bg) ∧ ce_ w29 B0 4 (.int .i64 Bh) ∧ ce_ w29 B0 5 (.int .i64 Bi) ∧ ce_ w29 B0 6 (.int .i64 Bj) ∧ ce_ w29 B0 7 (.int .i64 Bk) ∧ ce_ w29 B0 8 (.int .i64 Bd) ∧ ce_ w29 B0 9 (.int .i64 Bl) ∧ ce_ w29 B0 10 (.slice B7 B4.length B8) ∧ ce_ w29 B0 11 (.slice A1 l1.length c1) := hS_
            obtain ⟨O5, O6, Jq⟩ := Kd.R_slice Br.out
            (first | subst Jq | (injection Jq with f1_ f2_ f3_; have El := f1_.symm; have Em := f3_.symm; clear f1_ f2_ f3_; subst El; subst Em))
            refine norm_ (a' := ?_) ?_ ?_
            rotate_left
            ·simp only [putAll, Act.put, zs_]
             rfl
            refine oon_ 8 (some 33) rfl rfl (one_of HT_.out (by kernel_rfl)) (fun K hK => ?_)
            refine gos_ Try.func20 (roster_Mark.calls k B9 Be Bf Bg Bh Bi Bj Bk Bd Bl _ _ B4 a3 _ _ D9 _ _ (Kd.C_below D7.out HB.out) D8.out (Kd.R_reads' Br.out).2.2 (Kd.R_reads' Br.out).2.1 Lk.out) ?_
            rintro e w31 ⟨rfl, hb⟩
            refine ⟨_, rfl, ?_⟩
            replace Br := am_ (Kd.R_below Br.out hb)
            replace Bt := am_ (Kd.N_below Bt.out hb)
            replace B3 := bkb_ B3 hb
            replace B5 := bkb_ B5 hb
            replace B2 := bkb_ B2 hb
            replace Bn := bkb_ Bn hb
            replace HB := bst_ HB hb
            (try clear hb)
            (try clear hb2)
            (try clear hk)
            (try clear hi)
            refine hK.out _ _ (and_11 B3.out (cells_12 B2.out)) (fun hHeld => ?_)
            clear hK K
            refine nor_ 33 ?_
            exact norm_ (by first | (simp only [putAll, Act.put, zs_]; done) | (simp only [putAll, Act.put, zs_]; rfl)) (E3 (.slice O5 D9.length O6, v414, B6) _ ⟨hHeld, (by (with_reducible repeat (first | apply Kd.R_alloc | apply Kd.R_drewN | apply Kd.R_drew)); exact Br.out), (by (with_reducible repeat (first | apply Kd.N_alloc | apply Kd.N_drewN | apply Kd.N_drew)); exact Bt.out), (by (with_reducible repeat (first | apply kn_ | apply kd_ | apply ka_)); exact B3.out), (by (with_reducible repeat (first | apply kn_ | apply kd_ | apply ka_)); exact B5.out), (by (with_reducible repeat (first | apply kn_ | apply kd_ | apply ka_)); exact B2.out), (by (with_reducible repeat (first | apply kn_ | apply kd_ | apply ka_)); exact Bn.out), Bz.out, Bu.out, Bc.out, Bp.out, Bm.out, Bq.out, Ba.out, Bo.out, (by repeat (first | (with_reducible first | exact HB.out | apply ba_ | apply bn_ | apply bd_ | refine bs_ ?_ D0.out | refine bs_ ?_ D1.out | refine bs_ ?_ D2.out | refine bs_ ?_ Bu.out) | exact HB.out))⟩)
          ·skip
           rintro ⟨v407, B6⟩ w29 ⟨hS_, Dr, Ds, Dt, Du, Dy, E4, Ek, En, Eo, Ep, Di, Dj, Dk, E0⟩
           have Dd : Aside0 (Kd.R (Kd.int .i64) 3 w29 w.heap.size (fun k_ => (w.heap.size ≤ k_)) v407 D9) := ⟨Dr⟩
           have De : Aside0 (w29.heap[B1]? = some (.cells #[.int .i64 B9, .int .i64 Be, .int .i64 Bf, .int .i64 Bg, .int .i64 Bh, .int .i64 Bi, .int .i64 Bj, .int .i64 Bk, .int .i64 Bd, .int .i64 Bl, .slice B7 B4.length B8] 24 (0, 0))) := ⟨Ds⟩
           have Df : Aside0 (w29.heap[Bb]? = some (.cells #[.int .i64 0, .string (⟨#[]⟩ : ByteArray), .slice none 0 0, .slice none 0 0] 32 (0, 0))) := ⟨Dt⟩
           have Dg : Aside0 (w29.heap[B0]? = some (.cells #[.int .i64 B9, .int .i64 Be, .int .i64 Bf, .int .i64 Bg, .int .i64 Bh, .int .i64 Bi, .int .i64 Bj, .int .i64 Bk, .int .i64 Bd, .int .i64 Bl, .slice B7 B4.length B8, .slice A1 l1.length c1] 47 (0, 0))) := ⟨Du⟩
           have Dq : Aside0 (w29.heap[B6]? = some (.cells #[.int .i64 0, .string (⟨#[]⟩ : ByteArray), .slice none 0 0, .slice none 0 0] 32 (0, 0))) := ⟨Dy⟩
           have E2 : Aside0 (w.heap.size ≤ B6) := ⟨E4⟩
           have Ea : Aside0 (w.heap.size ≤ B6) := ⟨Ek⟩
           have Eg : Aside0 (B1 ≠ B6) := ⟨En⟩
           have Eh : Aside0 (B6 ≠ B1) := ⟨Eo⟩
           have Eq : Aside0 (Bb ≠ B6) := ⟨Ep⟩
           have Dl : Aside0 (B6 ≠ Bb) := ⟨Di⟩
           have Dm : Aside0 (B0 ≠ B6) := ⟨Dj⟩
           have Dn : Aside0 (B6 ≠ B0) := ⟨Dk⟩
           have E1 : Aside0 (Below w.heap.size w w29) := ⟨E0⟩
           clear B3
           clear B5
           clear B2
           clear HB
           clear Dr Ds Dt Du Dy E4 Ek En Eo Ep Di Dj Dk E0
           have Br := Dd
           have B3 := De
           have B5 := Df
           have B2 := Dg
           have Bn := Dq
           have Bz := E2
           have Bu := Ea
           have Bc := Eg
           have Bp := Eh
           have Bm := Eq
           have Bq := Dl
           have Ba := Dm
           have Bo := Dn
           have HB := E1
           clear Dd De Df Dg Dq E2 Ea Eg Eh Eq Dl Dm Dn E1
           have hHeld : ce_ w29 B1 0 (.int .i64 B9) ∧ ce_ w29 B1 1 (.int .i64 Be) ∧ ce_ w29 B1 2 (.int .i64 Bf) ∧ ce_ w29 B1 3 (.int .i64 Bg) ∧ ce_ w29 B1 4 (.int .i64 Bh) ∧ ce_ w29 B1 5 (.int .i64 Bi) ∧ ce_ w29 B1 6 (.int .i64 Bj) ∧ ce_ w29 B1 7 (.int .i64 Bk) ∧ ce_ w29 B1 8 (.int .i64 Bd) ∧ ce_ w29 B1 9 (.int .i64 Bl) ∧ ce_ w29 B1 10 (.slice B7 B4.length B8) ∧ ce_ w29 B0 0 (.int .i64 B9) ∧ ce_ w29 B0 1 (.int .i64 Be) ∧ ce_ w29 B0 2 (.int .i64 Bf) ∧ ce_ w29 B0 3 (.int .i64 Bg) ∧ ce_ w29 B0 4 (.int .i64 Bh) ∧ ce_ w29 B0 5 (.int .i64 Bi) ∧ ce_ w29 B0 6 (.int .i64 Bj) ∧ ce_ w29 B0 7 (.int .i64 Bk) ∧ ce_ w29 B0 8 (.int .i64 Bd) ∧ ce_ w29 B0 9 (.int .i64 Bl) ∧ ce_ w29 B0 10 (.slice B7 B4.length B8) ∧ ce_ w29 B0 11 (.slice A1 l1.length c1) := hS_
           refine norm_ (a' := ?_) ?_ ?_
           rotate_left
           ·simp only [putAll, Act.put, zs_]
            rfl
           refine two_ (i := 11) (j := 14) (Ni := some 36) (Nj := some 39) #[true, true, true, true, true, true, true, true, true, true, true, true, true, true, false, false, true, false] #[true, true, true, true, true, true, true, true, true, true, true, false, true, true, true, false, true, false] rfl rfl rfl rfl (two_of HT_.out (by kernel_rfl)) (by decide) (by decide) (fun K hK => ?_) (fun K hK => ?_)
           ·skip
            refine gos_ Try.func22 (round_machine_lines.calls k B9 Be Bf Bg Bh Bi Bj Bk Bd Bl _ _ B4 _ _ l1 _ _ l4 _ _ (Kd.C_below D7.out HB.out) D8.out (Kd.C_below Fm.out HB.out) Fn.out (Kd.C_below Lh.out HB.out) Li.out Ll.out) ?_
            rintro e w30 ⟨v411, rfl, E9, hb⟩
            refine ⟨_, rfl, ?_⟩
            replace Br := am_ (Kd.R_below Br.out hb)
            have D3 := am_ (Kd.R_lower (Kd.R_newM (M := fun k_ => (w.heap.size ≤ k_)) E9 (below_size HB.out) (fun k_ h_ => h_)) (below_size HB.out))
            replace B3 := bkb_ B3 hb
            replace B5 := bkb_ B5 hb
            replace B2 := bkb_ B2 hb
            replace Bn := bkb_ Bn hb
            replace HB := bst_ HB hb
            (try clear hb)
            (try clear hb2)
            (try clear hk)
            (try clear hi)
            (try clear E9)
            refine hK.out _ _ (and_11 B3.out (cells_12 B2.out)) (fun hHeld => ?_)
            clear hK K
            refine nor_ 36 ?_
            exact norm_ (by first | (simp only [putAll, Act.put, zs_]; done) | (simp only [putAll, Act.put, zs_]; rfl)) (Ej (v407, v411, B6) _ ⟨hHeld, (by (with_reducible repeat (first | apply Kd.R_alloc | apply Kd.R_drewN | apply Kd.R_drew)); exact Br.out), (by (with_reducible repeat (first | apply Kd.R_alloc | apply Kd.R_drewN | apply Kd.R_drew)); exact Kd.R_mono D3.out (fun _ hk => hk.1)), (by (with_reducible repeat (first | apply kn_ | apply kd_ | apply ka_)); exact B3.out), (by (with_reducible repeat (first | apply kn_ | apply kd_ | apply ka_)); exact B5.out), (by (with_reducible repeat (first | apply kn_ | apply kd_ | apply ka_)); exact B2.out), (by (with_reducible repeat (first | apply kn_ | apply kd_ | apply ka_)); exact Bn.out), Bz.out, Bu.out, Bc.out, Bp.out, Bm.out, Bq.out, Ba.out, Bo.out, (by repeat (first | (with_reducible first | exact HB.out | apply ba_ | apply bn_ | apply bd_ | refine bs_ ?_ D0.out | refine bs_ ?_ D1.out | refine bs_ ?_ D2.out | refine bs_ ?_ Bu.out) | exact HB.out))⟩)
           ·skip
            refine Kd.N_make_step (Kd.slice 45 k45) _ 42 (by rfl) (N' := 39) rfl 28 _ _ rfl B9 rfl rfl Try.underlying28 (.slice none 0 0) 24 info42 rfl (by decide) (by omega) [] (ok := fun k_ => w29.heap.size ≤ k_) (okp := fun _ => False) (Kd.FK_slice_mk (Nat.le_refl _) (Kd.F_nil _ _ _)) (fun _ hk => hk.elim) (Nat.le_refl _) (of_decide_eq_true (by first | (with_reducible assumption) | assumption)) (Nat.le_trans (Nat.mul_le_mul_right _ (of_decide_eq_true (by first | (with_reducible assumption) | assumption) : B9.toNat ≤ 11728124029610)) (by omega)) (Below.refl _ _) (Nat.le_refl _) ?_
            intro v414 w30 Ey hb hg_ hnew_
            clear hg_ hnew_
            (first | rw [← Dh.out] at Ey | (simp only [Int.reduceToNat] at Ey; rw [← Dh.out] at Ey))
            have Bt := am_ (Kd.N_lower (Kd.N_mono (ok' := fun k_ => (w.heap.size ≤ k_) ∧ some k_ ≠ (v407 : Value).ownBlock ∧ k_ ≠ B1 ∧ k_ ≠ Bb ∧ k_ ≠ B0 ∧ k_ ≠ B6) Ey (fun k_ hk_ => ⟨(Nat.le_trans (below_size HB.out) hk_), (Kd.fresh' (Kd.R_lt (by (with_reducible repeat (first | apply Kd.R_alloc | apply Kd.R_drewN | apply Kd.R_drew)); exact Br.out)) k_ hk_), (Kd.freshB (g := B1) (o := .cells #[.int .i64 B9, .int .i64 Be, .int .i64 Bf, .int .i64 Bg, .int .i64 Bh, .int .i64 Bi, .int .i64 Bj, .int .i64 Bk, .int .i64 Bd, .int .i64 Bl, .slice B7 B4.length B8] 24 (0, 0)) (by (with_reducible repeat (first | apply kn_ | apply kd_ | apply ka_)); exact B3.out) k_ hk_), (Kd.freshB (g := Bb) (o := .cells #[.int .i64 0, .string (⟨#[]⟩ : ByteArray), .slice none 0 0, .slice none 0 0] 32 (0, 0)) (by (with_reducible repeat (first | apply kn_ | apply kd_ | apply ka_)); exact B5.out) k_ hk_), (Kd.freshB (g := B0) (o := .cells #[.int .i64 B9, .int .i64 Be, .int .i64 Bf, .int .i64 Bg, .int .i64 Bh, .int .i64 Bi, .int .i64 Bj, .int .i64 Bk, .int .i64 Bd, .int .i64 Bl, .slice B7 B4.length B8, .slice A1 l1.length c1] 47 (0, 0)) (by (with_reducible repeat (first | apply kn_ | apply kd_ | apply ka_)); exact B2.out) k_ hk_), (Kd.freshB (g := B6) (o := .cells #[.int .i64 0, .string (⟨#[]⟩ : ByteArray), .slice none 0 0, .slice none 0 0] 32 (0, 0)) (by (with_reducible repeat (first | apply kn_ | apply kd_ | apply ka_)); exact Bn.out) k_ hk_)⟩)) (below_size HB.out))
            replace Br := am_ (Kd.R_below Br.out hb)
            replace B3 := bkb_ B3 hb
            replace B5 := bkb_ B5 hb
            replace B2 := bkb_ B2 hb
            replace Bn := bkb_ Bn hb
            replace HB := bst_ HB hb
            clear hb Ey
            refine hK.out _ _ (and_11 B3.out (cells_12 B2.out)) (fun hHeld => ?_)
            clear hK K
            refine nor_ 39 ?_
            exact norm_ (by first | (simp only [putAll, Act.put, zs_]; done) | (simp only [putAll, Act.put, zs_]; rfl)) (E3 (v407, v414, B6) _ ⟨hHeld, (by (with_reducible repeat (first | apply Kd.R_alloc | apply Kd.R_drewN | apply Kd.R_drew)); exact Br.out), (by (with_reducible repeat (first | apply Kd.N_alloc | apply Kd.N_drewN | apply Kd.N_drew)); exact Bt.out), (by (with_reducible repeat (first | apply kn_ | apply kd_ | apply ka_)); exact B3.out), (by (with_reducible repeat (first | apply kn_ | apply kd_ | apply ka_)); exact B5.out), (by (with_reducible repeat (first | apply kn_ | apply kd_ | apply ka_)); exact B2.out), (by (with_reducible repeat (first | apply kn_ | apply kd_ | apply ka_)); exact Bn.out), Bz.out, Bu.out, Bc.out, Bp.out, Bm.out, Bq.out, Ba.out, Bo.out, (by repeat (first | (with_reducible first | exact HB.out | apply ba_ | apply bn_ | apply bd_ | refine bs_ ?_ D0.out | refine bs_ ?_ D1.out | refine bs_ ?_ D2.out | refine bs_ ?_ Bu.out) | exact HB.out))⟩)
         ·skip
          rintro ⟨v407, v414⟩ w30 ⟨hS_, Dr, Ds, Dt, Du, Dy, E4⟩
          have Dd : Aside0 (Kd.R (Kd.int .i64) 3 w30 w.heap.size (fun k_ => (w.heap.size ≤ k_)) v407 D9) := ⟨Dr⟩
          have De : Aside0 (Kd.N (Kd.slice 45 k45) 42 w30 w.heap.size (fun k_ => (w.heap.size ≤ k_) ∧ some k_ ≠ (v407 : Value).ownBlock ∧ k_ ≠ B1 ∧ k_ ≠ Bb ∧ k_ ≠ B0) v414 y413) := ⟨Ds⟩
          have Df : Aside0 (w30.heap[B1]? = some (.cells #[.int .i64 B9, .int .i64 Be, .int .i64 Bf, .int .i64 Bg, .int .i64 Bh, .int .i64 Bi, .int .i64 Bj, .int .i64 Bk, .int .i64 Bd, .int .i64 Bl, .slice B7 B4.length B8] 24 (0, 0))) := ⟨Dt⟩
          have Dg : Aside0 (w30.heap[Bb]? = some (.cells #[.int .i64 0, .string (⟨#[]⟩ : ByteArray), .slice none 0 0, .slice none 0 0] 32 (0, 0))) := ⟨Du⟩
          have Dq : Aside0 (w30.heap[B0]? = some (.cells #[.int .i64 B9, .int .i64 Be, .int .i64 Bf, .int .i64 Bg, .int .i64 Bh, .int .i64 Bi, .int .i64 Bj, .int .i64 Bk, .int .i64 Bd, .int .i64 Bl, .slice B7 B4.length B8, .slice A1 l1.length c1] 47 (0, 0))) := ⟨Dy⟩
          have E2 : Aside0 (Below w.heap.size w w30) := ⟨E4⟩
          clear B3
          clear B5
          clear B2
          clear HB
          clear Dr Ds Dt Du Dy E4
          have Br := Dd
          have Bt := De
          have B3 := Df
          have B5 := Dg
          have B2 := Dq
          have HB := E2
          clear Dd De Df Dg Dq E2
          have hHeld : ce_ w30 B1 0 (.int .i64 B9) ∧ ce_ w30 B1 1 (.int .i64 Be) ∧ ce_ w30 B1 2 (.int .i64 Bf) ∧ ce_ w30 B1 3 (.int .i64 Bg) ∧ ce_ w30 B1 4 (.int .i64 Bh) ∧ ce_ w30 B1 5 (.int .i64 Bi) ∧ ce_ w30 B1 6 (.int .i64 Bj) ∧ ce_ w30 B1 7 (.int .i64 Bk) ∧ ce_ w30 B1 8 (.int .i64 Bd) ∧ ce_ w30 B1 9 (.int .i64 Bl) ∧ ce_ w30 B1 10 (.slice B7 B4.length B8) ∧ ce_ w30 B0 0 (.int .i64 B9) ∧ ce_ w30 B0 1 (.int .i64 Be) ∧ ce_ w30 B0 2 (.int .i64 Bf) ∧ ce_ w30 B0 3 (.int .i64 Bg) ∧ ce_ w30 B0 4 (.int .i64 Bh) ∧ ce_ w30 B0 5 (.int .i64 Bi) ∧ ce_ w30 B0 6 (.int .i64 Bj) ∧ ce_ w30 B0 7 (.int .i64 Bk) ∧ ce_ w30 B0 8 (.int .i64 Bd) ∧ ce_ w30 B0 9 (.int .i64 Bl) ∧ ce_ w30 B0 10 (.slice B7 B4.length B8) ∧ ce_ w30 B0 11 (.slice A1 l1.length c1) := hS_
          refine norm_ (a' := ?_) ?_ ?_
          rotate_left
          ·simp only [putAll, Act.put, zs_]
           rfl
          refine two_ (i := 11) (j := 16) (Ni := some 36) (Nj := some 14) #[true, true, true, true, true, true, true, true, true, true, true, true, true, true, true, false, false, false] #[true, true, true, true, true, true, true, true, true, true, true, false, true, true, true, false, true, false] rfl rfl rfl rfl (two_of HT_.out (by kernel_rfl)) (by decide) (by decide) (fun K hK => ?_) (fun K hK => ?_)
          ·skip
           refine gos_ Try.func22 (round_machine_lines.calls k B9 Be Bf Bg Bh Bi Bj Bk Bd Bl _ _ B4 _ _ l1 _ _ l4 _ _ (Kd.C_below D7.out HB.out) D8.out (Kd.C_below Fm.out HB.out) Fn.out (Kd.C_below Lh.out HB.out) Li.out Ll.out) ?_
           rintro e w31 ⟨v411, rfl, E9, hb⟩
           refine ⟨_, rfl, ?_⟩
           replace Br := am_ (Kd.R_below Br.out hb)
           replace Bt := am_ (Kd.N_elder' (by (with_reducible repeat (first | apply Kd.N_alloc | apply Kd.N_drewN | apply Kd.N_drew)); exact Bt.out) (Kd.R_base E9) hb)
           have D3 := am_ (Kd.R_lower (Kd.R_newM (M := fun k_ => (w.heap.size ≤ k_)) E9 (below_size HB.out) (fun k_ h_ => h_)) (below_size HB.out))
           replace B3 := bkb_ B3 hb
           replace B5 := bkb_ B5 hb
           replace B2 := bkb_ B2 hb
           replace HB := bst_ HB hb
           (try clear hb)
           (try clear hb2)
           (try clear hk)
           (try clear hi)
           (try clear E9)
           obtain ⟨Gy, Gz, G3⟩ := Kd.N_slice Bt.out
           (first | subst G3 | (injection G3 with f1_ f2_ f3_; have El := f1_.symm; have Em := f3_.symm; clear f1_ f2_ f3_; subst El; subst Em))
           obtain ⟨Fc, Fd, Ez⟩ := Kd.R_slice D3.out
           (first | subst Ez | (injection Ez with f1_ f2_ f3_; have El := f1_.symm; have Em := f3_.symm; clear f1_ f2_ f3_; subst El; subst Em))
           refine hK.out _ _ (and_11 B3.out (cells_12 B2.out)) (fun hHeld => ?_)
           clear hK K
           refine nor_ 36 ?_
           refine pur_ 15 (some 40) rfl rfl (any_of HT_.out (by kernel_rfl)) ?_
           exact norm_ (by first | (simp only [putAll, Act.put, zs_]; done) | (simp only [putAll, Act.put, zs_]; rfl)) (Ei (v407, .slice Fc D4.length Fd, .slice Gy y413.length Gz) _ ⟨hHeld, (by (with_reducible repeat (first | apply Kd.R_alloc | apply Kd.R_drewN | apply Kd.R_drew)); exact Br.out), (by (with_reducible repeat (first | apply Kd.R_alloc | apply Kd.R_drewN | apply Kd.R_drew)); exact Kd.R_mono D3.out (fun _ hk => hk.1)), (by (with_reducible repeat (first | apply Kd.N_alloc | apply Kd.N_drewN | apply Kd.N_drew)); exact Kd.N_mono Bt.out (fun _ hk => ⟨hk.1.1, ⟨hk.1.2.1, ⟨hk.2, ⟨hk.1.2.2.1, ⟨hk.1.2.2.2.1, hk.1.2.2.2.2⟩⟩⟩⟩⟩)), (by (with_reducible repeat (first | apply kn_ | apply kd_ | apply ka_)); exact B3.out), (by (with_reducible repeat (first | apply kn_ | apply kd_ | apply ka_)); exact B5.out), (by (with_reducible repeat (first | apply kn_ | apply kd_ | apply ka_)); exact B2.out), (by repeat (first | (with_reducible first | exact HB.out | apply ba_ | apply bn_ | apply bd_ | refine bs_ ?_ D0.out | refine bs_ ?_ D1.out | refine bs_ ?_ D2.out) | exact HB.out))⟩)
          ·skip
           refine box_step ?hg (N := 14) ?hd (cs := #[.int .i64 0, .string (⟨#[]⟩ : ByteArray), .slice none 0 0, .slice none 0 0]) (t := 32) ?hr ?_; (case hd => rfl); (case hg => rfl); (case hr => first | (go_simp; done) | (go_simp; rfl))
           intro B6 hg w31 hbox hb
           replace Br := am_ (Kd.R_below Br.out hb)
           replace Bt := am_ (Kd.N_below (Kd.N_elderB (by (with_reducible repeat (first | apply Kd.N_alloc | apply Kd.N_drewN | apply Kd.N_drew)); exact Bt.out) B6 (Nat.le_of_eq hg.symm)) hb)
           have Bn := am_ (hbox)
           have Bz := gwk_ HB hg
           have Bu := Bz
           replace HB := bst_ HB hb
           have Bc := nbk_ B3 hg
           have Bp := nbs_ Bc
           replace B3 := bkb_ B3 hb
           have Bm := nbk_ B5 hg
           have Bq := nbs_ Bm
           replace B5 := bkb_ B5 hb
           have Ba := nbk_ B2 hg
           have Bo := nbs_ Ba
           replace B2 := bkb_ B2 hb
           clear hb hbox hg
           refine hK.out _ _ (and_11 B3.out (cells_12 B2.out)) (fun hHeld => ?_)
           clear hK K
           refine nor_ 14 ?_
           exact norm_ (by first | (simp only [putAll, Act.put, zs_]; done) | (simp only [putAll, Act.put, zs_]; rfl)) (E3 (v407, v414, B6) _ ⟨hHeld, (by (with_reducible repeat (first | apply Kd.R_alloc | apply Kd.R_drewN | apply Kd.R_drew)); exact Br.out), (by (with_reducible repeat (first | apply Kd.N_alloc | apply Kd.N_drewN | apply Kd.N_drew)); exact Kd.N_mono Bt.out (fun _ hk => ⟨hk.1.1, ⟨hk.1.2.1, ⟨hk.1.2.2.1, ⟨hk.1.2.2.2.1, ⟨hk.1.2.2.2.2, hk.2⟩⟩⟩⟩⟩)), (by (with_reducible repeat (first | apply kn_ | apply kd_ | apply ka_)); exact B3.out), (by (with_reducible repeat (first | apply kn_ | apply kd_ | apply ka_)); exact B5.out), (by (with_reducible repeat (first | apply kn_ | apply kd_ | apply ka_)); exact B2.out), (by (with_reducible repeat (first | apply kn_ | apply kd_ | apply ka_)); exact Bn.out), Bz.out, Bu.out, Bc.out, Bp.out, Bm.out, Bq.out, Ba.out, Bo.out, (by repeat (first | (with_reducible first | exact HB.out | apply ba_ | apply bn_ | apply bd_ | refine bs_ ?_ D0.out | refine bs_ ?_ D1.out | refine bs_ ?_ D2.out | refine bs_ ?_ Bu.out) | exact HB.out))⟩)
        ·skip
         rintro ⟨v407, v411⟩ w29 ⟨hS_, Dr, Ds, Dt, Du, Dy, E4⟩
         have Dd : Aside0 (Kd.R (Kd.int .i64) 3 w29 w.heap.size (fun k_ => (w.heap.size ≤ k_)) v407 D9) := ⟨Dr⟩
         have De : Aside0 (Kd.R Kd.string 9 w29 w.heap.size (fun k_ => (w.heap.size ≤ k_)) v411 D4) := ⟨Ds⟩
         have Df : Aside0 (w29.heap[B1]? = some (.cells #[.int .i64 B9, .int .i64 Be, .int .i64 Bf, .int .i64 Bg, .int .i64 Bh, .int .i64 Bi, .int .i64 Bj, .int .i64 Bk, .int .i64 Bd, .int .i64 Bl, .slice B7 B4.length B8] 24 (0, 0))) := ⟨Dt⟩
         have Dg : Aside0 (w29.heap[Bb]? = some (.cells #[.int .i64 0, .string (⟨#[]⟩ : ByteArray), .slice none 0 0, .slice none 0 0] 32 (0, 0))) := ⟨Du⟩
         have Dq : Aside0 (w29.heap[B0]? = some (.cells #[.int .i64 B9, .int .i64 Be, .int .i64 Bf, .int .i64 Bg, .int .i64 Bh, .int .i64 Bi, .int .i64 Bj, .int .i64 Bk, .int .i64 Bd, .int .i64 Bl, .slice B7 B4.length B8, .slice A1 l1.length c1] 47 (0, 0))) := ⟨Dy⟩
         have E2 : Aside0 (Below w.heap.size w w29) := ⟨E4⟩
         clear B3
         clear B5
         clear B2
         clear HB
         clear Dr Ds Dt Du Dy E4
         have Br := Dd
         have D3 := De
         have B3 := Df
         have B5 := Dg
         have B2 := Dq
         have HB := E2
         clear Dd De Df Dg Dq E2
         have hHeld : ce_ w29 B1 0 (.int .i64 B9) ∧ ce_ w29 B1 1 (.int .i64 Be) ∧ ce_ w29 B1 2 (.int .i64 Bf) ∧ ce_ w29 B1 3 (.int .i64 Bg) ∧ ce_ w29 B1 4 (.int .i64 Bh) ∧ ce_ w29 B1 5 (.int .i64 Bi) ∧ ce_ w29 B1 6 (.int .i64 Bj) ∧ ce_ w29 B1 7 (.int .i64 Bk) ∧ ce_ w29 B1 8 (.int .i64 Bd) ∧ ce_ w29 B1 9 (.int .i64 Bl) ∧ ce_ w29 B1 10 (.slice B7 B4.length B8) ∧ ce_ w29 B0 0 (.int .i64 B9) ∧ ce_ w29 B0 1 (.int .i64 Be) ∧ ce_ w29 B0 2 (.int .i64 Bf) ∧ ce_ w29 B0 3 (.int .i64 Bg) ∧ ce_ w29 B0 4 (.int .i64 Bh) ∧ ce_ w29 B0 5 (.int .i64 Bi) ∧ ce_ w29 B0 6 (.int .i64 Bj) ∧ ce_ w29 B0 7 (.int .i64 Bk) ∧ ce_ w29 B0 8 (.int .i64 Bd) ∧ ce_ w29 B0 9 (.int .i64 Bl) ∧ ce_ w29 B0 10 (.slice B7 B4.length B8) ∧ ce_ w29 B0 11 (.slice A1 l1.length c1) := hS_
         refine norm_ (a' := ?_) ?_ ?_
         rotate_left
         ·simp only [putAll, Act.put, zs_]
          rfl
         refine two_ (i := 14) (j := 16) (Ni := some 39) (Nj := some 14) #[true, true, true, true, true, true, true, true, true, true, true, true, true, true, true, false, false, false] #[true, true, true, true, true, true, true, true, true, true, true, true, true, true, false, false, true, false] rfl rfl rfl rfl (two_of HT_.out (by kernel_rfl)) (by decide) (by decide) (fun K hK => ?_) (fun K hK => ?_)
         ·skip
          refine Kd.N_make_step (Kd.slice 45 k45) _ 42 (by rfl) (N' := 39) rfl 28 _ _ rfl B9 rfl rfl Try.underlying28 (.slice none 0 0) 24 info42 rfl (by decide) (by omega) [] (ok := fun k_ => w29.heap.size ≤ k_) (okp := fun _ => False) (Kd.FK_slice_mk (Nat.le_refl _) (Kd.F_nil _ _ _)) (fun _ hk => hk.elim) (Nat.le_refl _) (of_decide_eq_true (by first | (with_reducible assumption) | assumption)) (Nat.le_trans (Nat.mul_le_mul_right _ (of_decide_eq_true (by first | (with_reducible assumption) | assumption) : B9.toNat ≤ 11728124029610)) (by omega)) (Below.refl _ _) (Nat.le_refl _) ?_
          intro v414 w30 Ey hb hg_ hnew_
          clear hg_ hnew_
          (first | rw [← Dh.out] at Ey | (simp only [Int.reduceToNat] at Ey; rw [← Dh.out] at Ey))
          have Bt := am_ (Kd.N_lower (Kd.N_mono (ok' := fun k_ => (w.heap.size ≤ k_) ∧ some k_ ≠ (v407 : Value).ownBlock ∧ some k_ ≠ (v411 : Value).ownBlock ∧ k_ ≠ B1 ∧ k_ ≠ Bb ∧ k_ ≠ B0) Ey (fun k_ hk_ => ⟨(Nat.le_trans (below_size HB.out) hk_), (Kd.fresh' (Kd.R_lt (by (with_reducible repeat (first | apply Kd.R_alloc | apply Kd.R_drewN | apply Kd.R_drew)); exact Br.out)) k_ hk_), (Kd.fresh' (Kd.R_lt (by (with_reducible repeat (first | apply Kd.R_alloc | apply Kd.R_drewN | apply Kd.R_drew)); exact D3.out)) k_ hk_), (Kd.freshB (g := B1) (o := .cells #[.int .i64 B9, .int .i64 Be, .int .i64 Bf, .int .i64 Bg, .int .i64 Bh, .int .i64 Bi, .int .i64 Bj, .int .i64 Bk, .int .i64 Bd, .int .i64 Bl, .slice B7 B4.length B8] 24 (0, 0)) (by (with_reducible repeat (first | apply kn_ | apply kd_ | apply ka_)); exact B3.out) k_ hk_), (Kd.freshB (g := Bb) (o := .cells #[.int .i64 0, .string (⟨#[]⟩ : ByteArray), .slice none 0 0, .slice none 0 0] 32 (0, 0)) (by (with_reducible repeat (first | apply kn_ | apply kd_ | apply ka_)); exact B5.out) k_ hk_), (Kd.freshB (g := B0) (o := .cells #[.int .i64 B9, .int .i64 Be, .int .i64 Bf, .int .i64 Bg, .int .i64 Bh, .int .i64 Bi, .int .i64 Bj, .int .i64 Bk, .int .i64 Bd, .int .i64 Bl, .slice B7 B4.length B8, .slice A1 l1.length c1] 47 (0, 0)) (by (with_reducible repeat (first | apply kn_ | apply kd_ | apply ka_)); exact B2.out) k_ hk_)⟩)) (below_size HB.out))
          replace Br := am_ (Kd.R_below Br.out hb)
          replace D3 := am_ (Kd.R_below D3.out hb)
          replace B3 := bkb_ B3 hb
          replace B5 := bkb_ B5 hb
          replace B2 := bkb_ B2 hb
          replace HB := bst_ HB hb
          clear hb Ey
          obtain ⟨Gy, Gz, G3⟩ := Kd.N_slice Bt.out
          (first | subst G3 | (injection G3 with f1_ f2_ f3_; have El := f1_.symm; have Em := f3_.symm; clear f1_ f2_ f3_; subst El; subst Em))
          obtain ⟨Fc, Fd, Ez⟩ := Kd.R_slice D3.out
          (first | subst Ez | (injection Ez with f1_ f2_ f3_; have El := f1_.symm; have Em := f3_.symm; clear f1_ f2_ f3_; subst El; subst Em))
          refine hK.out _ _ (and_11 B3.out (cells_12 B2.out)) (fun hHeld => ?_)
          clear hK K
          refine nor_ 39 ?_
          refine pur_ 15 (some 40) rfl rfl (any_of HT_.out (by kernel_rfl)) ?_
          exact norm_ (by first | (simp only [putAll, Act.put, zs_]; done) | (simp only [putAll, Act.put, zs_]; rfl)) (Ei (v407, .slice Fc D4.length Fd, .slice Gy y413.length Gz) _ ⟨hHeld, (by (with_reducible repeat (first | apply Kd.R_alloc | apply Kd.R_drewN | apply Kd.R_drew)); exact Br.out), (by (with_reducible repeat (first | apply Kd.R_alloc | apply Kd.R_drewN | apply Kd.R_drew)); exact D3.out), (by (with_reducible repeat (first | apply Kd.N_alloc | apply Kd.N_drewN | apply Kd.N_drew)); exact Bt.out), (by (with_reducible repeat (first | apply kn_ | apply kd_ | apply ka_)); exact B3.out), (by (with_reducible repeat (first | apply kn_ | apply kd_ | apply ka_)); exact B5.out), (by (with_reducible repeat (first | apply kn_ | apply kd_ | apply ka_)); exact B2.out), (by repeat (first | (with_reducible first | exact HB.out | apply ba_ | apply bn_ | apply bd_ | refine bs_ ?_ D0.out | refine bs_ ?_ D1.out | refine bs_ ?_ D2.out) | exact HB.out))⟩)
         ·skip
          refine box_step ?hg (N := 14) ?hd (cs := #[.int .i64 0, .string (⟨#[]⟩ : ByteArray), .slice none 0 0, .slice none 0 0]) (t := 32) ?hr ?_; (case hd => rfl); (case hg => rfl); (case hr => first | (go_simp; done) | (go_simp; rfl))
          intro B6 hg w30 hbox hb
          replace Br := am_ (Kd.R_below Br.out hb)
          replace D3 := am_ (Kd.R_below D3.out hb)
          have Bn := am_ (hbox)
          have Bz := gwk_ HB hg
          have Bu := Bz
          replace HB := bst_ HB hb
          have Bc := nbk_ B3 hg
          have Bp := nbs_ Bc
          replace B3 := bkb_ B3 hb
          have Bm := nbk_ B5 hg
          have Bq := nbs_ Bm
          replace B5 := bkb_ B5 hb
          have Ba := nbk_ B2 hg
          have Bo := nbs_ Ba
          replace B2 := bkb_ B2 hb
          clear hb hbox hg
          refine hK.out _ _ (and_11 B3.out (cells_12 B2.out)) (fun hHeld => ?_)
          clear hK K
          refine nor_ 14 ?_
          exact norm_ (by first | (simp only [putAll, Act.put, zs_]; done) | (simp only [putAll, Act.put, zs_]; rfl)) (Ej (v407, v411, B6) _ ⟨hHeld, (by (with_reducible repeat (first | apply Kd.R_alloc | apply Kd.R_drewN | apply Kd.R_drew)); exact Br.out), (by (with_reducible repeat (first | apply Kd.R_alloc | apply Kd.R_drewN | apply Kd.R_drew)); exact D3.out), (by (with_reducible repeat (first | apply kn_ | apply kd_ | apply ka_)); exact B3.out), (by (with_reducible repeat (first | apply kn_ | apply kd_ | apply ka_)); exact B5.out), (by (with_reducible repeat (first | apply kn_ | apply kd_ | apply ka_)); exact B2.out), (by (with_reducible repeat (first | apply kn_ | apply kd_ | apply ka_)); exact Bn.out), Bz.out, Bu.out, Bc.out, Bp.out, Bm.out, Bq.out, Ba.out, Bo.out, (by repeat (first | (with_reducible first | exact HB.out | apply ba_ | apply bn_ | apply bd_ | refine bs_ ?_ D0.out | refine bs_ ?_ D1.out | refine bs_ ?_ D2.out | refine bs_ ?_ Bu.out) | exact HB.out))⟩)
       ·skip
        rintro ⟨v407, v414, B6⟩ w31 ⟨hS_, Dr, Ds, Dt, Du, Dy, E4, Ek, En, Eo, Ep, Di, Dj, Dk, E0, Ew⟩
        have Dd : Aside0 (Kd.R (Kd.int .i64) 3 w31 w.heap.size (fun k_ => (w.heap.size ≤ k_)) v407 D9) := ⟨Dr⟩
        have De : Aside0 (Kd.N (Kd.slice 45 k45) 42 w31 w.heap.size (fun k_ => (w.heap.size ≤ k_) ∧ some k_ ≠ (v407 : Value).ownBlock ∧ k_ ≠ B1 ∧ k_ ≠ Bb ∧ k_ ≠ B0 ∧ k_ ≠ B6) v414 y413) := ⟨Ds⟩
        have Df : Aside0 (w31.heap[B1]? = some (.cells #[.int .i64 B9, .int .i64 Be, .int .i64 Bf, .int .i64 Bg, .int .i64 Bh, .int .i64 Bi, .int .i64 Bj, .int .i64 Bk, .int .i64 Bd, .int .i64 Bl, .slice B7 B4.length B8] 24 (0, 0))) := ⟨Dt⟩
        have Dg : Aside0 (w31.heap[Bb]? = some (.cells #[.int .i64 0, .string (⟨#[]⟩ : ByteArray), .slice none 0 0, .slice none 0 0] 32 (0, 0))) := ⟨Du⟩
        have Dq : Aside0 (w31.heap[B0]? = some (.cells #[.int .i64 B9, .int .i64 Be, .int .i64 Bf, .int .i64 Bg, .int .i64 Bh, .int .i64 Bi, .int .i64 Bj, .int .i64 Bk, .int .i64 Bd, .int .i64 Bl, .slice B7 B4.length B8, .slice A1 l1.length c1] 47 (0, 0))) := ⟨Dy⟩
        have E2 : Aside0 (w31.heap[B6]? = some (.cells #[.int .i64 0, .string (⟨#[]⟩ : ByteArray), .slice none 0 0, .slice none 0 0] 32 (0, 0))) := ⟨E4⟩
        have Ea : Aside0 (w.heap.size ≤ B6) := ⟨Ek⟩
        have Eg : Aside0 (w.heap.size ≤ B6) := ⟨En⟩
        have Eh : Aside0 (B1 ≠ B6) := ⟨Eo⟩
        have Eq : Aside0 (B6 ≠ B1) := ⟨Ep⟩
        have Dl : Aside0 (Bb ≠ B6) := ⟨Di⟩
        have Dm : Aside0 (B6 ≠ Bb) := ⟨Dj⟩
        have Dn : Aside0 (B0 ≠ B6) := ⟨Dk⟩
        have E1 : Aside0 (B6 ≠ B0) := ⟨E0⟩
        have Ex : Aside0 (Below w.heap.size w w31) := ⟨Ew⟩
        clear B3
        clear B5
        clear B2
        clear HB
        clear Dr Ds Dt Du Dy E4 Ek En Eo Ep Di Dj Dk E0 Ew
        have Br := Dd
        have Bt := De
        have B3 := Df
        have B5 := Dg
        have B2 := Dq
        have Bn := E2
        have Bz := Ea
        have Bu := Eg
        have Bc := Eh
        have Bp := Eq
        have Bm := Dl
        have Bq := Dm
        have Ba := Dn
        have Bo := E1
        have HB := Ex
        clear Dd De Df Dg Dq E2 Ea Eg Eh Eq Dl Dm Dn E1 Ex
        have hHeld : ce_ w31 B1 0 (.int .i64 B9) ∧ ce_ w31 B1 1 (.int .i64 Be) ∧ ce_ w31 B1 2 (.int .i64 Bf) ∧ ce_ w31 B1 3 (.int .i64 Bg) ∧ ce_ w31 B1 4 (.int .i64 Bh) ∧ ce_ w31 B1 5 (.int .i64 Bi) ∧ ce_ w31 B1 6 (.int .i64 Bj) ∧ ce_ w31 B1 7 (.int .i64 Bk) ∧ ce_ w31 B1 8 (.int .i64 Bd) ∧ ce_ w31 B1 9 (.int .i64 Bl) ∧ ce_ w31 B1 10 (.slice B7 B4.length B8) ∧ ce_ w31 B0 0 (.int .i64 B9) ∧ ce_ w31 B0 1 (.int .i64 Be) ∧ ce_ w31 B0 2 (.int .i64 Bf) ∧ ce_ w31 B0 3 (.int .i64 Bg) ∧ ce_ w31 B0 4 (.int .i64 Bh) ∧ ce_ w31 B0 5 (.int .i64 Bi) ∧ ce_ w31 B0 6 (.int .i64 Bj) ∧ ce_ w31 B0 7 (.int .i64 Bk) ∧ ce_ w31 B0 8 (.int .i64 Bd) ∧ ce_ w31 B0 9 (.int .i64 Bl) ∧ ce_ w31 B0 10 (.slice B7 B4.length B8) ∧ ce_ w31 B0 11 (.slice A1 l1.length c1) := hS_
        refine norm_ (a' := ?_) ?_ ?_
        rotate_left
        ·simp only [putAll, Act.put, zs_]
         rfl
        refine oon_ 11 (some 36) rfl rfl (one_of HT_.out (by kernel_rfl)) (fun K hK => ?_)
        refine gos_ Try.func22 (round_machine_lines.calls k B9 Be Bf Bg Bh Bi Bj Bk Bd Bl _ _ B4 _ _ l1 _ _ l4 _ _ (Kd.C_below D7.out HB.out) D8.out (Kd.C_below Fm.out HB.out) Fn.out (Kd.C_below Lh.out HB.out) Li.out Ll.out) ?_
        rintro e w32 ⟨v411, rfl, E9, hb⟩
        refine ⟨_, rfl, ?_⟩
        replace Br := am_ (Kd.R_below Br.out hb)
        replace Bt := am_ (Kd.N_elder' (by (with_reducible repeat (first | apply Kd.N_alloc | apply Kd.N_drewN | apply Kd.N_drew)); exact Bt.out) (Kd.R_base E9) hb)
        have D3 := am_ (Kd.R_lower (Kd.R_newM (M := fun k_ => (w.heap.size ≤ k_)) E9 (below_size HB.out) (fun k_ h_ => h_)) (below_size HB.out))
        replace B3 := bkb_ B3 hb
        replace B5 := bkb_ B5 hb
        replace B2 := bkb_ B2 hb
        replace Bn := bkb_ Bn hb
        replace HB := bst_ HB hb
        (try clear hb)
        (try clear hb2)
        (try clear hk)
        (try clear hi)
        (try clear E9)
        obtain ⟨Fc, Fd, Ez⟩ := Kd.N_slice Bt.out
        (first | subst Ez | (injection Ez with f1_ f2_ f3_; have El := f1_.symm; have Em := f3_.symm; clear f1_ f2_ f3_; subst El; subst Em))
        obtain ⟨G4, G5, F8⟩ := Kd.R_slice D3.out
        (first | subst F8 | (injection F8 with f1_ f2_ f3_; have El := f1_.symm; have Em := f3_.symm; clear f1_ f2_ f3_; subst El; subst Em))
        refine hK.out _ _ (and_11 B3.out (cells_12 B2.out)) (fun hHeld => ?_)
        clear hK K
        refine nor_ 36 ?_
        refine pur_ 15 (some 40) rfl rfl (any_of HT_.out (by kernel_rfl)) ?_
        exact norm_ (by first | (simp only [putAll, Act.put, zs_]; done) | (simp only [putAll, Act.put, zs_]; rfl)) (Dv (v407, .slice G4 D4.length G5, .slice Fc y413.length Fd, B6) _ ⟨hHeld, (by (with_reducible repeat (first | apply Kd.R_alloc | apply Kd.R_drewN | apply Kd.R_drew)); exact Br.out), (by (with_reducible repeat (first | apply Kd.R_alloc | apply Kd.R_drewN | apply Kd.R_drew)); exact Kd.R_mono D3.out (fun _ hk => hk.1)), (by (with_reducible repeat (first | apply Kd.N_alloc | apply Kd.N_drewN | apply Kd.N_drew)); exact Kd.N_mono Bt.out (fun _ hk => ⟨hk.1.1, ⟨hk.1.2.1, ⟨hk.2, ⟨hk.1.2.2.1, ⟨hk.1.2.2.2.1, ⟨hk.1.2.2.2.2.1, hk.1.2.2.2.2.2⟩⟩⟩⟩⟩⟩)), (by (with_reducible repeat (first | apply kn_ | apply kd_ | apply ka_)); exact B3.out), (by (with_reducible repeat (first | apply kn_ | apply kd_ | apply ka_)); exact B5.out), (by (with_reducible repeat (first | apply kn_ | apply kd_ | apply ka_)); exact B2.out), (by (with_reducible repeat (first | apply kn_ | apply kd_ | apply ka_)); exact Bn.out), Bz.out, Bu.out, Bc.out, Bp.out, Bm.out, Bq.out, Ba.out, Bo.out, (by repeat (first | (with_reducible first | exact HB.out | apply ba_ | apply bn_ | apply bd_ | refine bs_ ?_ D0.out | refine bs_ ?_ D1.out | refine bs_ ?_ D2.out | refine bs_ ?_ Bu.out) | exact HB.out))⟩)
      ·skip
       rintro ⟨v407, v411, B6⟩ w30 ⟨hS_, Dr, Ds, Dt, Du, Dy, E4, Ek, En, Eo, Ep, Di, Dj, Dk, E0, Ew⟩
       have Dd : Aside0 (Kd.R (Kd.int .i64) 3 w30 w.heap.size (fun k_ => (w.heap.size ≤ k_)) v407 D9) := ⟨Dr⟩
       have De : Aside0 (Kd.R Kd.string 9 w30 w.heap.size (fun k_ => (w.heap.size ≤ k_)) v411 D4) := ⟨Ds⟩
       have Df : Aside0 (w30.heap[B1]? = some (.cells #[.int .i64 B9, .int .i64 Be, .int .i64 Bf, .int .i64 Bg, .int .i64 Bh, .int .i64 Bi, .int .i64 Bj, .int .i64 Bk, .int .i64 Bd, .int .i64 Bl, .slice B7 B4.length B8] 24 (0, 0))) := ⟨Dt⟩
       have Dg : Aside0 (w30.heap[Bb]? = some (.cells #[.int .i64 0, .string (⟨#[]⟩ : ByteArray), .slice none 0 0, .slice none 0 0] 32 (0, 0))) := ⟨Du⟩
       have Dq : Aside0 (w30.heap[B0]? = some (.cells #[.int .i64 B9, .int .i64 Be, .int .i64 Bf, .int .i64 Bg, .int .i64 Bh, .int .i64 Bi, .int .i64 Bj, .int .i64 Bk, .int .i64 Bd, .int .i64 Bl, .slice B7 B4.length B8, .slice A1 l1.length c1] 47 (0, 0))) := ⟨Dy⟩
       have E2 : Aside0 (w30.heap[B6]? = some (.cells #[.int .i64 0, .string (⟨#[]⟩ : ByteArray), .slice none 0 0, .slice none 0 0] 32 (0, 0))) := ⟨E4⟩
       have Ea : Aside0 (w.heap.size ≤ B6) := ⟨Ek⟩
       have Eg : Aside0 (w.heap.size ≤ B6) := ⟨En⟩
       have Eh : Aside0 (B1 ≠ B6) := ⟨Eo⟩
       have Eq : Aside0 (B6 ≠ B1) := ⟨Ep⟩
       have Dl : Aside0 (Bb ≠ B6) := ⟨Di⟩
       have Dm : Aside0 (B6 ≠ Bb) := ⟨Dj⟩
       have Dn : Aside0 (B0 ≠ B6) := ⟨Dk⟩
       have E1 : Aside0 (B6 ≠ B0) := ⟨E0⟩
       have Ex : Aside0 (Below w.heap.size w w30) := ⟨Ew⟩
       clear B3
       clear B5
       clear B2
       clear HB
       clear Dr Ds Dt Du Dy E4 Ek En Eo Ep Di Dj Dk E0 Ew
       have Br := Dd
       have D3 := De
       have B3 := Df
       have B5 := Dg
       have B2 := Dq
       have Bn := E2
       have Bz := Ea
       have Bu := Eg
       have Bc := Eh
       have Bp := Eq
       have Bm := Dl
       have Bq := Dm
       have Ba := Dn
       have Bo := E1
       have HB := Ex
       clear Dd De Df Dg Dq E2 Ea Eg Eh Eq Dl Dm Dn E1 Ex
       have hHeld : ce_ w30 B1 0 (.int .i64 B9) ∧ ce_ w30 B1 1 (.int .i64 Be) ∧ ce_ w30 B1 2 (.int .i64 Bf) ∧ ce_ w30 B1 3 (.int .i64 Bg) ∧ ce_ w30 B1 4 (.int .i64 Bh) ∧ ce_ w30 B1 5 (.int .i64 Bi) ∧ ce_ w30 B1 6 (.int .i64 Bj) ∧ ce_ w30 B1 7 (.int .i64 Bk) ∧ ce_ w30 B1 8 (.int .i64 Bd) ∧ ce_ w30 B1 9 (.int .i64 Bl) ∧ ce_ w30 B1 10 (.slice B7 B4.length B8) ∧ ce_ w30 B0 0 (.int .i64 B9) ∧ ce_ w30 B0 1 (.int .i64 Be) ∧ ce_ w30 B0 2 (.int .i64 Bf) ∧ ce_ w30 B0 3 (.int .i64 Bg) ∧ ce_ w30 B0 4 (.int .i64 Bh) ∧ ce_ w30 B0 5 (.int .i64 Bi) ∧ ce_ w30 B0 6 (.int .i64 Bj) ∧ ce_ w30 B0 7 (.int .i64 Bk) ∧ ce_ w30 B0 8 (.int .i64 Bd) ∧ ce_ w30 B0 9 (.int .i64 Bl) ∧ ce_ w30 B0 10 (.slice B7 B4.length B8) ∧ ce_ w30 B0 11 (.slice A1 l1.length c1) := hS_
       refine norm_ (a' := ?_) ?_ ?_
       rotate_left
       ·simp only [putAll, Act.put, zs_]
        rfl
       refine oon_ 14 (some 39) rfl rfl (one_of HT_.out (by kernel_rfl)) (fun K hK => ?_)
       refine Kd.N_make_step (Kd.slice 45 k45) _ 42 (by rfl) (N' := 39) rfl 28 _ _ rfl B9 rfl rfl Try.underlying28 (.slice none 0 0) 24 info42 rfl (by decide) (by omega) [] (ok := fun k_ => w30.heap.size ≤ k_) (okp := fun _ => False) (Kd.FK_slice_mk (Nat.le_refl _) (Kd.F_nil _ _ _)) (fun _ hk => hk.elim) (Nat.le_refl _) (of_decide_eq_true (by first | (with_reducible assumption) | assumption)) (Nat.le_trans (Nat.mul_le_mul_right _ (of_decide_eq_true (by first | (with_reducible assumption) | assumption) : B9.toNat ≤ 11728124029610)) (by omega)) (Below.refl _ _) (Nat.le_refl _) ?_
       intro v414 w31 G6 hb hg_ hnew_
       clear hg_ hnew_
       (first | rw [← Dh.out] at G6 | (simp only [Int.reduceToNat] at G6; rw [← Dh.out] at G6))
       have Bt := am_ (Kd.N_lower (Kd.N_mono (ok' := fun k_ => (w.heap.size ≤ k_) ∧ some k_ ≠ (v407 : Value).ownBlock ∧ some k_ ≠ (v411 : Value).ownBlock ∧ k_ ≠ B1 ∧ k_ ≠ Bb ∧ k_ ≠ B0 ∧ k_ ≠ B6) G6 (fun k_ hk_ => ⟨(Nat.le_trans (below_size HB.out) hk_), (Kd.fresh' (Kd.R_lt (by (with_reducible repeat (first | apply Kd.R_alloc | apply Kd.R_drewN | apply Kd.R_drew)); exact Br.out)) k_ hk_), (Kd.fresh' (Kd.R_lt (by (with_reducible repeat (first | apply Kd.R_alloc | apply Kd.R_drewN | apply Kd.R_drew)); exact D3.out)) k_ hk_), (Kd.freshB (g := B1) (o := .cells #[.int .i64 B9, .int .i64 Be, .int .i64 Bf, .int .i64 Bg, .int .i64 Bh, .int .i64 Bi, .int .i64 Bj, .int .i64 Bk, .int .i64 Bd, .int .i64 Bl, .slice B7 B4.length B8] 24 (0, 0)) (by (with_reducible repeat (first | apply kn_ | apply kd_ | apply ka_)); exact B3.out) k_ hk_), (Kd.freshB (g := Bb) (o := .cells #[.int .i64 0, .string (⟨#[]⟩ : ByteArray), .slice none 0 0, .slice none 0 0] 32 (0, 0)) (by (with_reducible repeat (first | apply kn_ | apply kd_ | apply ka_)); exact B5.out) k_ hk_), (Kd.freshB (g := B0) (o := .cells #[.int .i64 B9, .int .i64 Be, .int .i64 Bf, .int .i64 Bg, .int .i64 Bh, .int .i64 Bi, .int .i64 Bj, .int .i64 Bk, .int .i64 Bd, .int .i64 Bl, .slice B7 B4.length B8, .slice A1 l1.length c1] 47 (0, 0)) (by (with_reducible repeat (first | apply kn_ | apply kd_ | apply ka_)); exact B2.out) k_ hk_), (Kd.freshB (g := B6) (o := .cells #[.int .i64 0, .string (⟨#[]⟩ : ByteArray), .slice none 0 0, .slice none 0 0] 32 (0, 0)) (by (with_reducible repeat (first | apply kn_ | apply kd_ | apply ka_)); exact Bn.out) k_ hk_)⟩)) (below_size HB.out))
       replace Br := am_ (Kd.R_below Br.out hb)
       replace D3 := am_ (Kd.R_below D3.out hb)
       replace B3 := bkb_ B3 hb
       replace B5 := bkb_ B5 hb
       replace B2 := bkb_ B2 hb
       replace Bn := bkb_ Bn hb
       replace HB := bst_ HB hb
       clear hb G6
       obtain ⟨Fc, Fd, Ez⟩ := Kd.N_slice Bt.out
       (first | subst Ez | (injection Ez with f1_ f2_ f3_; have El := f1_.symm; have Em := f3_.symm; clear f1_ f2_ f3_; subst El; subst Em))
       obtain ⟨G4, G5, F8⟩ := Kd.R_slice D3.out
       (first | subst F8 | (injection F8 with f1_ f2_ f3_; have El := f1_.symm; have Em := f3_.symm; clear f1_ f2_ f3_; subst El; subst Em))
       refine hK.out _ _ (and_11 B3.out (cells_12 B2.out)) (fun hHeld => ?_)
       clear hK K
       refine nor_ 39 ?_
       refine pur_ 15 (some 40) rfl rfl (any_of HT_.out (by kernel_rfl)) ?_
       exact norm_ (by first | (simp only [putAll, Act.put, zs_]; done) | (simp only [putAll, Act.put, zs_]; rfl)) (Dv (v407, .slice G4 D4.length G5, .slice Fc y413.length Fd, B6) _ ⟨hHeld, (by (with_reducible repeat (first | apply Kd.R_alloc | apply Kd.R_drewN | apply Kd.R_drew)); exact Br.out), (by (with_reducible repeat (first | apply Kd.R_alloc | apply Kd.R_drewN | apply Kd.R_drew)); exact D3.out), (by (with_reducible repeat (first | apply Kd.N_alloc | apply Kd.N_drewN | apply Kd.N_drew)); exact Bt.out), (by (with_reducible repeat (first | apply kn_ | apply kd_ | apply ka_)); exact B3.out), (by (with_reducible repeat (first | apply kn_ | apply kd_ | apply ka_)); exact B5.out), (by (with_reducible repeat (first | apply kn_ | apply kd_ | apply ka_)); exact B2.out), (by (with_reducible repeat (first | apply kn_ | apply kd_ | apply ka_)); exact Bn.out), Bz.out, Bu.out, Bc.out, Bp.out, Bm.out, Bq.out, Ba.out, Bo.out, (by repeat (first | (with_reducible first | exact HB.out | apply ba_ | apply bn_ | apply bd_ | refine bs_ ?_ D0.out | refine bs_ ?_ D1.out | refine bs_ ?_ D2.out | refine bs_ ?_ Bu.out) | exact HB.out))⟩)
     ·skip
      rintro ⟨v407, v411, v414⟩ w33 ⟨hS_, Dr, Ds, Dt, Du, Dy, E4, Ek⟩
      have Dd : Aside0 (Kd.R (Kd.int .i64) 3 w33 w.heap.size (fun k_ => (w.heap.size ≤ k_)) v407 D9) := ⟨Dr⟩
      have De : Aside0 (Kd.R Kd.string 9 w33 w.heap.size (fun k_ => (w.heap.size ≤ k_)) v411 D4) := ⟨Ds⟩
      have Df : Aside0 (Kd.N (Kd.slice 45 k45) 42 w33 w.heap.size (fun k_ => (w.heap.size ≤ k_) ∧ some k_ ≠ (v407 : Value).ownBlock ∧ some k_ ≠ (v411 : Value).ownBlock ∧ k_ ≠ B1 ∧ k_ ≠ Bb ∧ k_ ≠ B0) v414 y413) := ⟨Dt⟩
      have Dg : Aside0 (w33.heap[B1]? = some (.cells #[.int .i64 B9, .int .i64 Be, .int .i64 Bf, .int .i64 Bg, .int .i64 Bh, .int .i64 Bi, .int .i64 Bj, .int .i64 Bk, .int .i64 Bd, .int .i64 Bl, .slice B7 B4.length B8] 24 (0, 0))) := ⟨Du⟩
      have Dq : Aside0 (w33.heap[Bb]? = some (.cells #[.int .i64 0, .string (⟨#[]⟩ : ByteArray), .slice none 0 0, .slice none 0 0] 32 (0, 0))) := ⟨Dy⟩
      have E2 : Aside0 (w33.heap[B0]? = some (.cells #[.int .i64 B9, .int .i64 Be, .int .i64 Bf, .int .i64 Bg, .int .i64 Bh, .int .i64 Bi, .int .i64 Bj, .int .i64 Bk, .int .i64 Bd, .int .i64 Bl, .slice B7 B4.length B8, .slice A1 l1.length c1] 47 (0, 0))) := ⟨E4⟩
      have Ea : Aside0 (Below w.heap.size w w33) := ⟨Ek⟩
      clear B3
      clear B5
      clear B2
      clear HB
      clear Dr Ds Dt Du Dy E4 Ek
      have Br := Dd
      have D3 := De
      have Bt := Df
      have B3 := Dg
      have B5 := Dq
      have B2 := E2
      have HB := Ea
      clear Dd De Df Dg Dq E2 Ea
      have hHeld : ce_ w33 B1 0 (.int .i64 B9) ∧ ce_ w33 B1 1 (.int .i64 Be) ∧ ce_ w33 B1 2 (.int .i64 Bf) ∧ ce_ w33 B1 3 (.int .i64 Bg) ∧ ce_ w33 B1 4 (.int .i64 Bh) ∧ ce_ w33 B1 5 (.int .i64 Bi) ∧ ce_ w33 B1 6 (.int .i64 Bj) ∧ ce_ w33 B1 7 (.int .i64 Bk) ∧ ce_ w33 B1 8 (.int .i64 Bd) ∧ ce_ w33 B1 9 (.int .i64 Bl) ∧ ce_ w33 B1 10 (.slice B7 B4.length B8) ∧ ce_ w33 B0 0 (.int .i64 B9) ∧ ce_ w33 B0 1 (.int .i64 Be) ∧ ce_ w33 B0 2 (.int .i64 Bf) ∧ ce_ w33 B0 3 (.int .i64 Bg) ∧ ce_ w33 B0 4 (.int .i64 Bh) ∧ ce_ w33 B0 5 (.int .i64 Bi) ∧ ce_ w33 B0 6 (.int .i64 Bj) ∧ ce_ w33 B0 7 (.int .i64 Bk) ∧ ce_ w33 B0 8 (.int .i64 Bd) ∧ ce_ w33 B0 9 (.int .i64 Bl) ∧ ce_ w33 B0 10 (.slice B7 B4.length B8) ∧ ce_ w33 B0 11 (.slice A1 l1.length c1) := hS_
      obtain ⟨G4, G5, F8⟩ := Kd.N_slice Bt.out
      (first | subst F8 | (injection F8 with f1_ f2_ f3_; have El := f1_.symm; have Em := f3_.symm; clear f1_ f2_ f3_; subst El; subst Em))
      obtain ⟨F9, Fa, G7⟩ := Kd.R_slice D3.out
      (first | subst G7 | (injection G7 with f1_ f2_ f3_; have El := f1_.symm; have Em := f3_.symm; clear f1_ f2_ f3_; subst El; subst Em))
      refine norm_ (a' := ?_) ?_ ?_
      rotate_left
      ·simp only [putAll, Act.put, zs_]
       rfl
      refine oon_ 16 (some 14) rfl rfl (one_of HT_.out (by kernel_rfl)) (fun K hK => ?_)
      refine box_step ?hg (N := 14) ?hd (cs := #[.int .i64 0, .string (⟨#[]⟩ : ByteArray), .slice none 0 0, .slice none 0 0]) (t := 32) ?hr ?_; (case hd => rfl); (case hg => rfl); (case hr => first | (go_simp; done) | (go_simp; rfl))
      intro B6 hg w36 hbox hb
      replace Br := am_ (Kd.R_below Br.out hb)
      replace D3 := am_ (Kd.R_below D3.out hb)
      replace Bt := am_ (Kd.N_below (Kd.N_elderB (by (with_reducible repeat (first | apply Kd.N_alloc | apply Kd.N_drewN | apply Kd.N_drew)); exact Bt.out) B6 (Nat.le_of_eq hg.symm)) hb)
      have Bn := am_ (hbox)
      have Bz := gwk_ HB hg
      have Bu := Bz
      replace HB := bst_ HB hb
      have Bc := nbk_ B3 hg
      have Bp := nbs_ Bc
      replace B3 := bkb_ B3 hb
      have Bm := nbk_ B5 hg
      have Bq := nbs_ Bm
      replace B5 := bkb_ B5 hb
      have Ba := nbk_ B2 hg
      have Bo := nbs_ Ba
      replace B2 := bkb_ B2 hb
      clear hb hbox hg
      refine hK.out _ _ (and_11 B3.out (cells_12 B2.out)) (fun hHeld => ?_)
      clear hK K
      refine nor_ 14 ?_
      exact norm_ (by first | (simp only [putAll, Act.put, zs_]; done) | (simp only [putAll, Act.put, zs_]; rfl)) (Dv (v407, .slice F9 D4.length Fa, .slice G4 y413.length G5, B6) _ ⟨hHeld, (by (with_reducible repeat (first | apply Kd.R_alloc | apply Kd.R_drewN | apply Kd.R_drew)); exact Br.out), (by (with_reducible repeat (first | apply Kd.R_alloc | apply Kd.R_drewN | apply Kd.R_drew)); exact D3.out), (by (with_reducible repeat (first | apply Kd.N_alloc | apply Kd.N_drewN | apply Kd.N_drew)); exact Kd.N_mono Bt.out (fun _ hk => ⟨hk.1.1, ⟨hk.1.2.1, ⟨hk.1.2.2.1, ⟨hk.1.2.2.2.1, ⟨hk.1.2.2.2.2.1, ⟨hk.1.2.2.2.2.2, hk.2⟩⟩⟩⟩⟩⟩)), (by (with_reducible repeat (first | apply kn_ | apply kd_ | apply ka_)); exact B3.out), (by (with_reducible repeat (first | apply kn_ | apply kd_ | apply ka_)); exact B5.out), (by (with_reducible repeat (first | apply kn_ | apply kd_ | apply ka_)); exact B2.out), (by (with_reducible repeat (first | apply kn_ | apply kd_ | apply ka_)); exact Bn.out), Bz.out, Bu.out, Bc.out, Bp.out, Bm.out, Bq.out, Ba.out, Bo.out, (by repeat (first | (with_reducible first | exact HB.out | apply ba_ | apply bn_ | apply bd_ | refine bs_ ?_ D0.out | refine bs_ ?_ D1.out | refine bs_ ?_ D2.out | refine bs_ ?_ Bu.out) | exact HB.out))⟩)
    rintro ⟨v407, v411, v414, B6⟩ w34 ⟨hS_, Dr, Ds, Dt, Du, Dy, E4, Ek, En, Eo, Ep, Di, Dj, Dk, E0, Ew, Jr⟩
    have Dd : Aside0 (Kd.R (Kd.int .i64) 3 w34 w.heap.size (fun k_ => (w.heap.size ≤ k_)) v407 D9) := ⟨Dr⟩
    have De : Aside0 (Kd.R Kd.string 9 w34 w.heap.size (fun k_ => (w.heap.size ≤ k_)) v411 D4) := ⟨Ds⟩
    have Df : Aside0 (Kd.N (Kd.slice 45 k45) 42 w34 w.heap.size (fun k_ => (w.heap.size ≤ k_) ∧ some k_ ≠ (v407 : Value).ownBlock ∧ some k_ ≠ (v411 : Value).ownBlock ∧ k_ ≠ B1 ∧ k_ ≠ Bb ∧ k_ ≠ B0 ∧ k_ ≠ B6) v414 y413) := ⟨Dt⟩
    have Dg : Aside0 (w34.heap[B1]? = some (.cells #[.int .i64 B9, .int .i64 Be, .int .i64 Bf, .int .i64 Bg, .int .i64 Bh, .int .i64 Bi, .int .i64 Bj, .int .i64 Bk, .int .i64 Bd, .int .i64 Bl, .slice B7 B4.length B8] 24 (0, 0))) := ⟨Du⟩
    have Dq : Aside0 (w34.heap[Bb]? = some (.cells #[.int .i64 0, .string (⟨#[]⟩ : ByteArray), .slice none 0 0, .slice none 0 0] 32 (0, 0))) := ⟨Dy⟩
    have E2 : Aside0 (w34.heap[B0]? = some (.cells #[.int .i64 B9, .int .i64 Be, .int .i64 Bf, .int .i64 Bg, .int .i64 Bh, .int .i64 Bi, .int .i64 Bj, .int .i64 Bk, .int .i64 Bd, .int .i64 Bl, .slice B7 B4.length B8, .slice A1 l1.length c1] 47 (0, 0))) := ⟨E4⟩
    have Ea : Aside0 (w34.heap[B6]? = some (.cells #[.int .i64 0, .string (⟨#[]⟩ : ByteArray), .slice none 0 0, .slice none 0 0] 32 (0, 0))) := ⟨Ek⟩
    have Eg : Aside0 (w.heap.size ≤ B6) := ⟨En⟩
    have Eh : Aside0 (w.heap.size ≤ B6) := ⟨Eo⟩
    have Eq : Aside0 (B1 ≠ B6) := ⟨Ep⟩
    have Dl : Aside0 (B6 ≠ B1) := ⟨Di⟩
    have Dm : Aside0 (Bb ≠ B6) := ⟨Dj⟩
    have Dn : Aside0 (B6 ≠ Bb) := ⟨Dk⟩
    have E1 : Aside0 (B0 ≠ B6) := ⟨E0⟩
    have Ex : Aside0 (B6 ≠ B0) := ⟨Ew⟩
    have Js : Aside0 (Below w.heap.size w w34) := ⟨Jr⟩
    clear B3
    clear B5
    clear B2
    clear HB
    clear Dr Ds Dt Du Dy E4 Ek En Eo Ep Di Dj Dk E0 Ew Jr
    have Br := Dd
    have D3 := De
    have Bt := Df
    have B3 := Dg
    have B5 := Dq
    have B2 := E2
    have Bn := Ea
    have Bz := Eg
    have Bu := Eh
    have Bc := Eq
    have Bp := Dl
    have Bm := Dm
    have Bq := Dn
    have Ba := E1
    have Bo := Ex
    have HB := Js
    clear Dd De Df Dg Dq E2 Ea Eg Eh Eq Dl Dm Dn E1 Ex Js
    have hHeld : ce_ w34 B1 0 (.int .i64 B9) ∧ ce_ w34 B1 1 (.int .i64 Be) ∧ ce_ w34 B1 2 (.int .i64 Bf) ∧ ce_ w34 B1 3 (.int .i64 Bg) ∧ ce_ w34 B1 4 (.int .i64 Bh) ∧ ce_ w34 B1 5 (.int .i64 Bi) ∧ ce_ w34 B1 6 (.int .i64 Bj) ∧ ce_ w34 B1 7 (.int .i64 Bk) ∧ ce_ w34 B1 8 (.int .i64 Bd) ∧ ce_ w34 B1 9 (.int .i64 Bl) ∧ ce_ w34 B1 10 (.slice B7 B4.length B8) ∧ ce_ w34 B0 0 (.int .i64 B9) ∧ ce_ w34 B0 1 (.int .i64 Be) ∧ ce_ w34 B0 2 (.int .i64 Bf) ∧ ce_ w34 B0 3 (.int .i64 Bg) ∧ ce_ w34 B0 4 (.int .i64 Bh) ∧ ce_ w34 B0 5 (.int .i64 Bi) ∧ ce_ w34 B0 6 (.int .i64 Bj) ∧ ce_ w34 B0 7 (.int .i64 Bk) ∧ ce_ w34 B0 8 (.int .i64 Bd) ∧ ce_ w34 B0 9 (.int .i64 Bl) ∧ ce_ w34 B0 10 (.slice B7 B4.length B8) ∧ ce_ w34 B0 11 (.slice A1 l1.length c1) := hS_
    obtain ⟨F9, Fa, G7⟩ := Kd.N_slice Bt.out
    (first | subst G7 | (injection G7 with f1_ f2_ f3_; have El := f1_.symm; have Em := f3_.symm; clear f1_ f2_ f3_; subst El; subst Em))
    obtain ⟨Dw, Dx, Jt⟩ := Kd.R_slice D3.out
    (first | subst Jt | (injection Jt with f1_ f2_ f3_; have El := f1_.symm; have Em := f3_.symm; clear f1_ f2_ f3_; subst El; subst Em))
    refine norm_ (a' := ?_) ?_ ?_
    rotate_left
    ·simp only [putAll, Act.put, zs_]
     rfl
    refine oon_ 17 none rfl rfl (one_of HT_.out (by kernel_rfl)) (fun K hK => ?_)
    have Vt : w34.cell? ⟨B6, 0, none⟩ = some (.int .i64 0) := (blk_cell Bn.out 0).trans rfl
    have Rj := blk_frozen Bn.out 0
    have Lm := Bc.out
    have Ln := Bm.out
    have Lo := Ba.out
    have Lp := Bp.out
    have Lq := Bq.out
    have Lr := Bo.out
    have Vu : w34.cell? ⟨B6, 1, none⟩ = some (.string (⟨#[]⟩ : ByteArray)) := (blk_cell Bn.out 1).trans rfl
    have Rk := blk_frozen Bn.out 1
    have Ls := Bc.out
    have Lt := Bm.out
    have Lu := Ba.out
    have Lv := Bp.out
    have Lw := Bq.out
    have Lx := Bo.out
    have Vv : w34.cell? ⟨B6, 2, none⟩ = some (.slice none 0 0) := (blk_cell Bn.out 2).trans rfl
    have Rl := blk_frozen Bn.out 2
    have Ly := Bc.out
    have Lz := Bm.out
    have M0 := Ba.out
    have M1 := Bp.out
    have M2 := Bq.out
    have M3 := Bo.out
    have Vw : w34.cell? ⟨B6, 3, none⟩ = some (.slice none 0 0) := (blk_cell Bn.out 3).trans rfl
    have Rm := blk_frozen Bn.out 3
    have M4 := Bc.out
    have M5 := Bm.out
    have M6 := Ba.out
    have M7 := Bp.out
    have M8 := Bq.out
    have M9 := Bo.out
    refine skip_ (w1 := ?_) (by rfl) rfl ?_ ?_
    rotate_left
    ·go_simp
     rfl
    refine hK.out _ _ (and_11 (blk_far (p := ⟨B6, _, none⟩) (blk_far (p := ⟨B6, _, none⟩) (blk_far (p := ⟨B6, _, none⟩) (blk_far (p := ⟨B6, _, none⟩) B3.out Bc.out _) Bc.out _) Bc.out _) Bc.out _) (cells_12 (blk_far (p := ⟨B6, _, none⟩) (blk_far (p := ⟨B6, _, none⟩) (blk_far (p := ⟨B6, _, none⟩) (blk_far (p := ⟨B6, _, none⟩) B2.out Ba.out _) Ba.out _) Ba.out _) Ba.out _))) (fun hHeld => ?_)
    clear hK K
    refine done_ (done_of HT_.out (by kernel_rfl)) ?_
    have Rn := Fo.out
    have Ro := Er.out
    have Rp := F0.out
    have Rq := Ef.out
    have Rr := Ba.out
    have Rs := Bo.out
    have Ju := cells_12 B2.out
    have Jv := frozen_12 B2.out
    try go_wp2_with (first | ((with_reducible refine gate_load (t := 47) (x := .tmp 13) rfl ?_); refine lrg_ 47 (.tmp 13) B0 47 (by (with_reducible repeat (first | apply kn_ | apply kd_ | apply ka_)); with_reducible exact B2.out) Try.underlying47 ?_) | ((with_reducible refine gate_load (t := 47) (x := .tmp 13) rfl ?_); refine load_row_g (cs := #[.int .i64 B9, .int .i64 Be, .int .i64 Bf, .int .i64 Bg, .int .i64 Bh, .int .i64 Bi, .int .i64 Bj, .int .i64 Bk, .int .i64 Bd, .int .i64 Bl, .slice B7 B4.length B8, .slice A1 l1.length c1]) ?hw 47 (.tmp 13) ?h2 B0 ?hx 47 (fr := (0, 0)) (d := ?_) ?hg ?h3 ?h4 ?hi ?_; (case hw => first | (with_reducible rfl) | (go_simp; done) | rfl); (case h2 => rfl); (case hx => first | (with_reducible rfl) | (go_simp; done) | rfl); (case hg => exact (by (iterate 4 ((with_reducible repeat (first | apply kn_ | apply kd_ | apply ka_)); refine blk_far ?_ Ba.out _)); (with_reducible repeat (first | apply kn_ | apply kd_ | apply ka_)); exact B2.out)); (case h3 => exact Try.underlying47); (case h4 => rfl); (case hi => kernel_rfl)) | ((with_reducible refine gate_callee (f := 21) rfl ?_); refine gom_ (some 42) Try.func21 (round_machine_honest.calls k B9 Be Bf Bg Bh Bi Bj Bk Bd Bl _ _ B4 _ _ l1 _ _ ?side1 D8.out ?side3 Fn.out Vr.out) ?_; (case side1 => exact Kd.C_below D7.out (by repeat (first | (with_reducible first | exact HB.out | apply ba_ | apply bn_ | apply bd_ | refine bs_ ?_ D0.out | refine bs_ ?_ D1.out | refine bs_ ?_ D2.out | refine bs_ ?_ Bu.out) | exact HB.out))); (case side3 => exact Kd.C_below Fm.out (by repeat (first | (with_reducible first | exact HB.out | apply ba_ | apply bn_ | apply bd_ | refine bs_ ?_ D0.out | refine bs_ ?_ D1.out | refine bs_ ?_ D2.out | refine bs_ ?_ Bu.out) | exact HB.out))); rintro e w45 ⟨v418, rfl, E9, hb⟩; refine ⟨_, rfl, ?_⟩; have Ma := below_of hb (by repeat (first | (with_reducible first | exact HB.out | apply ba_ | apply bn_ | apply bd_ | refine bs_ ?_ D0.out | refine bs_ ?_ D1.out | refine bs_ ?_ D2.out | refine bs_ ?_ Bu.out) | exact HB.out)); replace D3 := am_ (Kd.R_below (by (with_reducible repeat (first | apply Kd.R_alloc | apply Kd.R_drewN | apply Kd.R_drew)); exact (Kd.R_mono (Kd.R_far (p := ⟨B6, 3, none⟩) (Kd.R_far (p := ⟨B6, 2, none⟩) (Kd.R_far (p := ⟨B6, 1, none⟩) (Kd.R_far (p := ⟨B6, 0, none⟩) (Kd.R_types D3.out Bn.out (by decide)) (fun _ hk => hk.2) (.int .i64 D5)) (fun _ hk => hk.2) (.string Dc)) (fun _ hk => hk.2) (.slice Dw D4.length Dx)) (fun _ hk => hk.2) (.slice F9 y413.length Fa)) (fun _ h_ => h_.1))) hb); replace Bt := am_ (Kd.N_elder' (by (with_reducible repeat (first | apply Kd.N_alloc | apply Kd.N_drewN | apply Kd.N_drew)); exact (Kd.N_mono (Kd.N_far (p := ⟨B6, 3, none⟩) (Kd.N_far (p := ⟨B6, 2, none⟩) (Kd.N_far (p := ⟨B6, 1, none⟩) (Kd.N_far (p := ⟨B6, 0, none⟩) (Kd.N_mono Bt.out (fun k_ hk => (⟨hk, hk.2.2.2.2.2.2⟩ : _ ∧ k_ ≠ B6))) (fun _ hk => hk.2) (.int .i64 D5)) (fun _ hk => hk.2) (.string Dc)) (fun _ hk => hk.2) (.slice Dw D4.length Dx)) (fun _ hk => hk.2) (.slice F9 y413.length Fa)) (fun _ h_ => h_.1))) (Kd.R_base E9) hb); have Gl := am_ (Kd.R_lower (Kd.R_new' (Kd.R_newM (M := fun k_ => (w.heap.size ≤ k_)) E9 (below_size Ma) (fun k_ h_ => h_)) (Kd.R_lt (by (with_reducible repeat (first | apply Kd.R_alloc | apply Kd.R_drewN | apply Kd.R_drew)); exact (Kd.R_mono (Kd.R_far (p := ⟨B6, 3, none⟩) (Kd.R_far (p := ⟨B6, 2, none⟩) (Kd.R_far (p := ⟨B6, 1, none⟩) (Kd.R_far (p := ⟨B6, 0, none⟩) (Kd.R_types Br.out Bn.out (by decide)) (fun _ hk => hk.2) (.int .i64 D5)) (fun _ hk => hk.2) (.string Dc)) (fun _ hk => hk.2) (.slice Dw D4.length Dx)) (fun _ hk => hk.2) (.slice F9 y413.length Fa)) (fun _ h_ => h_.1))))) (below_size Ma)); replace Br := am_ (Kd.R_elder' (by (with_reducible repeat (first | apply Kd.R_alloc | apply Kd.R_drewN | apply Kd.R_drew)); exact (Kd.R_mono (Kd.R_far (p := ⟨B6, 3, none⟩) (Kd.R_far (p := ⟨B6, 2, none⟩) (Kd.R_far (p := ⟨B6, 1, none⟩) (Kd.R_far (p := ⟨B6, 0, none⟩) (Kd.R_types Br.out Bn.out (by decide)) (fun _ hk => hk.2) (.int .i64 D5)) (fun _ hk => hk.2) (.string Dc)) (fun _ hk => hk.2) (.slice Dw D4.length Dx)) (fun _ hk => hk.2) (.slice F9 y413.length Fa)) (fun _ h_ => h_.1))) (Kd.R_base E9) hb); replace B3 := am_ (blk_below (g := B1) (o := .cells #[.int .i64 B9, .int .i64 Be, .int .i64 Bf, .int .i64 Bg, .int .i64 Bh, .int .i64 Bi, .int .i64 Bj, .int .i64 Bk, .int .i64 Bd, .int .i64 Bl, .slice B7 B4.length B8] 24 (0, 0)) (by (iterate 4 ((with_reducible repeat (first | apply kn_ | apply kd_ | apply ka_)); refine blk_far ?_ Bc.out _)); (with_reducible repeat (first | apply kn_ | apply kd_ | apply ka_)); exact B3.out) hb); replace B5 := am_ (blk_below (g := Bb) (o := .cells #[.int .i64 0, .string (⟨#[]⟩ : ByteArray), .slice none 0 0, .slice none 0 0] 32 (0, 0)) (by (iterate 4 ((with_reducible repeat (first | apply kn_ | apply kd_ | apply ka_)); refine blk_far ?_ Bm.out _)); (with_reducible repeat (first | apply kn_ | apply kd_ | apply ka_)); exact B5.out) hb); replace B2 := am_ (blk_below (g := B0) (o := .cells #[.int .i64 B9, .int .i64 Be, .int .i64 Bf, .int .i64 Bg, .int .i64 Bh, .int .i64 Bi, .int .i64 Bj, .int .i64 Bk, .int .i64 Bd, .int .i64 Bl, .slice B7 B4.length B8, .slice A1 l1.length c1] 47 (0, 0)) (by (iterate 4 ((with_reducible repeat (first | apply kn_ | apply kd_ | apply ka_)); refine blk_far ?_ Ba.out _)); (with_reducible repeat (first | apply kn_ | apply kd_ | apply ka_)); exact B2.out) hb); replace Bn := am_ (blk_below (g := B6) (o := .cells #[.int .i64 D5, .string Dc, .slice Dw D4.length Dx, .slice F9 y413.length Fa] 32 (0, 0)) (by (with_reducible repeat (first | apply kn_ | apply kd_ | apply ka_)); refine blk_put (cs := #[.int .i64 D5, .string Dc, .slice Dw D4.length Dx, .slice none 0 0]) ?_ 3 _ rfl; (with_reducible repeat (first | apply kn_ | apply kd_ | apply ka_)); refine blk_put (cs := #[.int .i64 D5, .string Dc, .slice none 0 0, .slice none 0 0]) ?_ 2 _ rfl; (with_reducible repeat (first | apply kn_ | apply kd_ | apply ka_)); refine blk_put (cs := #[.int .i64 D5, .string (⟨#[]⟩ : ByteArray), .slice none 0 0, .slice none 0 0]) ?_ 1 _ rfl; (with_reducible repeat (first | apply kn_ | apply kd_ | apply ka_)); refine blk_put (cs := #[.int .i64 0, .string (⟨#[]⟩ : ByteArray), .slice none 0 0, .slice none 0 0]) ?_ 0 _ rfl; (with_reducible repeat (first | apply kn_ | apply kd_ | apply ka_)); exact Bn.out) hb); replace HB := am_ (below_step Ma hb); clear Ma; (try clear hb); (try clear hk); (try clear E9); obtain ⟨Jw, Et, O7⟩ := Kd.R_slice Gl.out; subst O7))
    go_loopg [44] k (fun kq v44 w' => ∃ (Bv : Int) (Bw : List (List (S45))) (u417003 : Value), v44 = .int .i64 Bv ∧ Aside0 (round_Play.l0 kq l5 By (By.length : Int) Bv B9 Be Bf Bg Bh Bi Bj Bk Bd Bl B4 l1 D5 Dc D4 Bw = some (r1, r2, r3, r4)) ∧ Aside0 (kq ≤ k) ∧ Aside0 (Kd.R (Kd.int .i64) 3 w' w.heap.size (fun k_ => (w.heap.size ≤ k_)) (.slice Jw By.length Et) By) ∧ Aside0 (Kd.R Kd.string 9 w' w.heap.size (fun k_ => (w.heap.size ≤ k_)) (.slice Dw D4.length Dx) D4) ∧ Aside0 (Kd.N (Kd.slice 45 k45) 42 w' w.heap.size (fun k_ => (w.heap.size ≤ k_) ∧ some k_ ≠ ((.slice Jw By.length Et) : Value).ownBlock ∧ some k_ ≠ ((.slice Dw D4.length Dx) : Value).ownBlock ∧ k_ ≠ B1 ∧ k_ ≠ Bb ∧ k_ ≠ B0 ∧ k_ ≠ B6) u417003 Bw) ∧ Aside0 (w'.heap[B1]? = some (.cells #[.int .i64 B9, .int .i64 Be, .int .i64 Bf, .int .i64 Bg, .int .i64 Bh, .int .i64 Bi, .int .i64 Bj, .int .i64 Bk, .int .i64 Bd, .int .i64 Bl, (.slice B7 B4.length B8)] 24 (0, 0))) ∧ Aside0 (w'.heap[Bb]? = some (.cells #[.int .i64 0, .string (⟨#[]⟩ : ByteArray), (.slice none 0 0), (.slice none 0 0)] 32 (0, 0))) ∧ Aside0 (w'.heap[B0]? = some (.cells #[.int .i64 B9, .int .i64 Be, .int .i64 Bf, .int .i64 Bg, .int .i64 Bh, .int .i64 Bi, .int .i64 Bj, .int .i64 Bk, .int .i64 Bd, .int .i64 Bl, (.slice B7 B4.length B8), (.slice A1 l1.length c1)] 47 (0, 0))) ∧ Aside0 (w'.heap[B6]? = some (.cells #[.int .i64 D5, .string Dc, (.slice Dw D4.length Dx), u417003] 32 (0, 0))) ∧ Aside0 (Below w.heap.size w w'))
    case atStart => exact ⟨(0), (y413), (.slice F9 y413.length Fa), (by first | rfl | (simp; done) | (simp [*]; done)), H', ⟨Nat.le_refl _⟩, ⟨by (with_reducible repeat (first | apply Kd.R_alloc | apply Kd.R_drewN | apply Kd.R_drew)); exact Kd.R_mono Gl.out (fun _ hk => hk.1.1)⟩, ⟨by (with_reducible repeat (first | apply Kd.R_alloc | apply Kd.R_drewN | apply Kd.R_drew)); exact D3.out⟩, ⟨by (with_reducible repeat (first | apply Kd.N_alloc | apply Kd.N_drewN | apply Kd.N_drew)); exact Kd.N_mono Bt.out (fun _ hk => ⟨hk.1.1, ⟨hk.2, ⟨hk.1.2.2.1, ⟨hk.1.2.2.2.1, ⟨hk.1.2.2.2.2.1, ⟨hk.1.2.2.2.2.2.1, hk.1.2.2.2.2.2.2⟩⟩⟩⟩⟩⟩)⟩, ⟨by (with_reducible repeat (first | apply kn_ | apply kd_ | apply ka_)); exact B3.out⟩, ⟨by (with_reducible repeat (first | apply kn_ | apply kd_ | apply ka_)); exact B5.out⟩, ⟨by (with_reducible repeat (first | apply kn_ | apply kd_ | apply ka_)); exact B2.out⟩, ⟨by (with_reducible repeat (first | apply kn_ | apply kd_ | apply ka_)); exact Bn.out⟩, ⟨by repeat (first | (with_reducible first | exact HB.out | apply ba_ | apply bn_ | apply bd_ | refine bs_ ?_ D0.out | refine bs_ ?_ D1.out | refine bs_ ?_ D2.out | refine bs_ ?_ Bu.out) | exact HB.out)⟩⟩
    case round =>
     clear H'
     try clear c1
     try clear c2
     try clear p2
     try clear c4
     try clear c21
     try clear c22
     try clear c41
     try clear c42
     try clear c43
     try clear Ju
     try clear Jv
     obtain ⟨Bv, Bw, u417003, rfl, HA, Mb, Da, Bx, Bs, B3, B5, B2, Bn, HB⟩ := hrel
     cases gk with
     | zero => exact absurd HA.out (by simp [round_Play.l0])
     | succ k1 =>
      have H := HA.out
      clear HA
      simp only [round_Play.l0] at H
      by_cases Jf : Bv < (By.length : Int)
      ·rw [if_pos Jf] at H
       have Jx : decide (Bv < (By.length : Int)) = true := decide_eq_true Jf
       clear Jf
       by_cases Mc : 0 ≤ Bv
       ·rw [if_pos Mc] at H
        have Rt : decide (0 ≤ Bv) = true := decide_eq_true Mc
        clear Mc
        by_cases Md : Bv < (By.length : Int)
        ·rw [if_pos Md] at H
         have Ru : decide (Bv < (By.length : Int)) = true := decide_eq_true Md
         clear Md
         by_cases Jg : (rd By Bv) < (l5.length : Int)
         ·rw [if_pos Jg] at H
          have Jy : decide ((rd By Bv) < (l5.length : Int)) = true := decide_eq_true Jg
          clear Jg
          by_cases Me : 0 ≤ (rd By Bv)
          ·rw [if_pos Me] at H
           have Rv : decide (0 ≤ (rd By Bv)) = true := decide_eq_true Me
           clear Me
           obtain ⟨Fp, Vx, H⟩ := bes_ H
           try dsimp only at H
           by_cases Mf : (rd By Bv) < (Bw.length : Int)
           ·rw [if_pos Mf] at H
            have Rw : decide ((rd By Bv) < (Bw.length : Int)) = true := decide_eq_true Mf
            clear Mf
            obtain ⟨y426, hy426⟩ : ∃ y_ : List (List (S45)), y_ = (Bw.set ((rd By Bv) : Int).toNat Fp) := ⟨_, rfl⟩
            replace H : (round_Play.l0 k1 l5 By (By.length : Int) (wrap64 (Bv + 1)) B9 Be Bf Bg Bh Bi Bj Bk Bd Bl B4 l1 D5 Dc D4 y426) = some (r1, r2, r3, r4) := by first | (rw [hy426]; with_reducible exact H) | (have Fu := (Option.bind_some _ _).symm.trans H; rw [hy426]; with_reducible exact Fu) | (have Fu := (Option.bind_some _ _).symm.trans H; with_reducible exact Fu) | with_reducible exact H | (rw [hy426]; exact H) | exact H
            have Jz := am_ hy426
            clear hy426
            have H' := am_ H
            clear H
            have Fe : 0 ≤ (Bv : Int) := of_decide_eq_true (by first | (with_reducible assumption) | assumption)
            have Ff : Bv < (By.length : Int) := of_decide_eq_true (by first | (with_reducible assumption) | assumption)
            obtain ⟨Ed, J0, Ge⟩ := Kd.at_int (Kd.R_reads' Da.out).2.2 Bv Fe Ff
            cases J0
            replace Fe := eq_true Fe
            replace Ff := eq_true Ff
            try go_wp2_with (first | ((with_reducible refine gate_load (t := 47) (x := .tmp 13) rfl ?_); refine lrg_ 47 (.tmp 13) B0 47 (by (with_reducible repeat (first | apply kn_ | apply kd_ | apply ka_)); with_reducible exact B2.out) Try.underlying47 ?_) | ((with_reducible refine gate_dst (N := 17) rfl ?_); refine bxe_ 17 42 #[.slice none 0 0] ?_; intro D6 hg w55 hbox hb; replace Da := am_ (Kd.R_below Da.out hb); replace Bx := am_ (Kd.R_below Bx.out hb); replace Bs := am_ (Kd.N_below (Kd.N_elderB (by (with_reducible repeat (first | apply Kd.N_alloc | apply Kd.N_drewN | apply Kd.N_drew)); exact Bs.out) D6 (Nat.le_of_eq hg.symm)) hb); have Db := am_ (hbox); have G8 := gwk_ HB hg; have Fj := G8; replace HB := bst_ HB hb; have E5 := nbk_ B3 hg; have F1 := nbs_ E5; replace B3 := bkb_ B3 hb; have E6 := nbk_ B5 hg; have F2 := nbs_ E6; replace B5 := bkb_ B5 hb; have E7 := nbk_ B2 hg; have F3 := nbs_ E7; replace B2 := bkb_ B2 hb; have E8 := nbk_ Bn hg; have F4 := nbs_ E8; replace Bn := bkb_ Bn hb; clear hb hbox hg; have J1 : 0 ≤ ((rd By Bv) : Int) := of_decide_eq_true (by first | (with_reducible assumption) | assumption); have J2 : (rd By Bv) < (l5.length : Int) := of_decide_eq_true (by first | (with_reducible assumption) | assumption); obtain ⟨Rx, Do, Dp, O8, F5, Fk, Fl⟩ := at_L3 Vq.out (rd By Bv) J1 J2; cases O8; replace F5 := (HB.out.cell (World.block_lt_of_cell? w _ F5)).trans F5; have Gf := am_ Fl; have Gg := am_ Fk; clear Fl Fk; replace J1 := eq_true J1; replace J2 := eq_true J2; have Ry := F1.out; have Rz := E5.out; have V0 := F2.out; have V1 := E6.out; have V2 := F3.out; have V3 := E7.out; have V4 := F4.out; have V5 := E8.out; have Mg := cells_1 Db.out; have Mh := frozen_1 Db.out))
            have Dd : Aside0 (Kd.R (Kd.int .i64) 3 (w55.setCell ⟨D6, 0, none⟩ (.slice Do (rd_L3 l5 (rd By Bv)).length Dp)) w.heap.size (fun k_ => (w.heap.size ≤ k_)) (.slice (some Ed) By.length Et) By) := ⟨by (with_reducible repeat (first | apply Kd.R_alloc | apply Kd.R_drewN | apply Kd.R_drew)); exact Kd.R_mono (Kd.R_far (p := ⟨D6, 0, none⟩) (Kd.R_types Da.out Db.out (by decide)) (fun _ hk => hk.2) (.slice Do (rd_L3 l5 (rd By Bv)).length Dp)) (fun _ hk => hk.1)⟩
            have De : Aside0 (Kd.R Kd.string 9 (w55.setCell ⟨D6, 0, none⟩ (.slice Do (rd_L3 l5 (rd By Bv)).length Dp)) w.heap.size (fun k_ => (w.heap.size ≤ k_)) (.slice Dw D4.length Dx) D4) := ⟨by (with_reducible repeat (first | apply Kd.R_alloc | apply Kd.R_drewN | apply Kd.R_drew)); exact Kd.R_mono (Kd.R_far (p := ⟨D6, 0, none⟩) (Kd.R_types Bx.out Db.out (by decide)) (fun _ hk => hk.2) (.slice Do (rd_L3 l5 (rd By Bv)).length Dp)) (fun _ hk => hk.1)⟩
            have Df : Aside0 (Kd.N (Kd.slice 45 k45) 42 (w55.setCell ⟨D6, 0, none⟩ (.slice Do (rd_L3 l5 (rd By Bv)).length Dp)) w.heap.size (fun k_ => (w.heap.size ≤ k_) ∧ some k_ ≠ (.slice (some Ed) By.length Et : Value).ownBlock ∧ some k_ ≠ (.slice Dw D4.length Dx : Value).ownBlock ∧ k_ ≠ B1 ∧ k_ ≠ Bb ∧ k_ ≠ B0 ∧ k_ ≠ B6 ∧ k_ ≠ D6) u417003 Bw) := ⟨by (with_reducible repeat (first | apply Kd.N_alloc | apply Kd.N_drewN | apply Kd.N_drew)); exact Kd.N_mono (Kd.N_far (p := ⟨D6, 0, none⟩) (Kd.N_mono Bs.out (fun k_ hk => (⟨hk, hk.2⟩ : _ ∧ k_ ≠ D6))) (fun _ hk => hk.2) (.slice Do (rd_L3 l5 (rd By Bv)).length Dp)) (fun _ hk => ⟨hk.1.1.1, ⟨hk.1.1.2.1, ⟨hk.1.1.2.2.1, ⟨hk.1.1.2.2.2.1, ⟨hk.1.1.2.2.2.2.1, ⟨hk.1.1.2.2.2.2.2.1, ⟨hk.1.1.2.2.2.2.2.2, hk.1.2⟩⟩⟩⟩⟩⟩⟩)⟩
            have Dg : Aside0 ((w55.setCell ⟨D6, 0, none⟩ (.slice Do (rd_L3 l5 (rd By Bv)).length Dp)).heap[B1]? = some (.cells #[.int .i64 B9, .int .i64 Be, .int .i64 Bf, .int .i64 Bg, .int .i64 Bh, .int .i64 Bi, .int .i64 Bj, .int .i64 Bk, .int .i64 Bd, .int .i64 Bl, .slice B7 B4.length B8] 24 (0, 0))) := ⟨by (with_reducible repeat (first | apply kn_ | apply kd_ | apply ka_)); refine blk_far ?_ E5.out _; (with_reducible repeat (first | apply kn_ | apply kd_ | apply ka_)); exact B3.out⟩
            have Dq : Aside0 ((w55.setCell ⟨D6, 0, none⟩ (.slice Do (rd_L3 l5 (rd By Bv)).length Dp)).heap[Bb]? = some (.cells #[.int .i64 0, .string (⟨#[]⟩ : ByteArray), .slice none 0 0, .slice none 0 0] 32 (0, 0))) := ⟨by (with_reducible repeat (first | apply kn_ | apply kd_ | apply ka_)); refine blk_far ?_ E6.out _; (with_reducible repeat (first | apply kn_ | apply kd_ | apply ka_)); exact B5.out⟩
            have E2 : Aside0 ((w55.setCell ⟨D6, 0, none⟩ (.slice Do (rd_L3 l5 (rd By Bv)).length Dp)).heap[B0]? = some (.cells #[.int .i64 B9, .int .i64 Be, .int .i64 Bf, .int .i64 Bg, .int .i64 Bh, .int .i64 Bi, .int .i64 Bj, .int .i64 Bk, .int .i64 Bd, .int .i64 Bl, .slice B7 B4.length B8, .slice A1 l1.length c1] 47 (0, 0))) := ⟨by (with_reducible repeat (first | apply kn_ | apply kd_ | apply ka_)); refine blk_far ?_ E7.out _; (with_reducible repeat (first | apply kn_ | apply kd_ | apply ka_)); exact B2.out⟩
            have Ea : Aside0 ((w55.setCell ⟨D6, 0, none⟩ (.slice Do (rd_L3 l5 (rd By Bv)).length Dp)).heap[B6]? = some (.cells #[.int .i64 D5, .string Dc, .slice Dw D4.length Dx, u417003] 32 (0, 0))) := ⟨by (with_reducible repeat (first | apply kn_ | apply kd_ | apply ka_)); refine blk_far ?_ E8.out _; (with_reducible repeat (first | apply kn_ | apply kd_ | apply ka_)); exact Bn.out⟩
            have Eg : Aside0 ((w55.setCell ⟨D6, 0, none⟩ (.slice Do (rd_L3 l5 (rd By Bv)).length Dp)).heap[D6]? = some (.cells #[.slice Do (rd_L3 l5 (rd By Bv)).length Dp] 42 (0, 0))) := ⟨by (with_reducible repeat (first | apply kn_ | apply kd_ | apply ka_)); refine blk_put (cs := #[.slice none 0 0]) ?_ 0 _ rfl; (with_reducible repeat (first | apply kn_ | apply kd_ | apply ka_)); exact Db.out⟩
            have Eh : Aside0 (Below w.heap.size w (w55.setCell ⟨D6, 0, none⟩ (.slice Do (rd_L3 l5 (rd By Bv)).length Dp))) := ⟨by repeat (first | (with_reducible first | exact HB.out | apply ba_ | apply bn_ | apply bd_ | refine bs_ ?_ D0.out | refine bs_ ?_ D1.out | refine bs_ ?_ D2.out | refine bs_ ?_ Bu.out | refine bs_ ?_ Fj.out) | exact HB.out)⟩
            (try clear Da)
            (try clear Bx)
            (try clear Bs)
            (try clear B3)
            (try clear B5)
            (try clear B2)
            (try clear Bn)
            (try clear Db)
            (try clear HB)
            generalize (w55.setCell ⟨D6, 0, none⟩ (.slice Do (rd_L3 l5 (rd By Bv)).length Dp)) = w61 at Dd De Df Dg Dq E2 Ea Eg Eh ⊢
            have Da := Dd
            have Bx := De
            have Bs := Df
            have B3 := Dg
            have B5 := Dq
            have B2 := E2
            have Bn := Ea
            have Db := Eg
            have HB := Eh
            clear Dd De Df Dg Dq E2 Ea Eg Eh
            replace Da := am_ (Kd.R_drew Da.out)
            replace Bx := am_ (Kd.R_drew Bx.out)
            replace Bs := am_ (Kd.N_drew Bs.out)
            replace B3 := am_ (blk_drew B3.out)
            replace B5 := am_ (blk_drew B5.out)
            replace B2 := am_ (blk_drew B2.out)
            replace Bn := am_ (blk_drew Bn.out)
            replace Db := am_ (blk_drew Db.out)
            replace HB := am_ (below_drew1 HB.out)
            refine start_ (n := 10) (S := fun w' => ce_ w' B6 0 (.int .i64 D5) ∧ ce_ w' B6 1 (.string Dc) ∧ ce_ w' B6 2 (.slice Dw D4.length Dx) ∧ ce_ w' B6 3 (u417003) ∧ ce_ w' B0 0 (.int .i64 B9) ∧ ce_ w' B0 1 (.int .i64 Be) ∧ ce_ w' B0 2 (.int .i64 Bf) ∧ ce_ w' B0 3 (.int .i64 Bg) ∧ ce_ w' B0 4 (.int .i64 Bh) ∧ ce_ w' B0 5 (.int .i64 Bi) ∧ ce_ w' B0 6 (.int .i64 Bj) ∧ ce_ w' B0 7 (.int .i64 Bk) ∧ ce_ w' B0 8 (.int .i64 Bd) ∧ ce_ w' B0 9 (.int .i64 Bl) ∧ ce_ w' B0 10 (.slice B7 B4.length B8) ∧ ce_ w' B0 11 (.slice A1 l1.length c1)) (ds := [9]) #[false, false, false, false, false, false, false, false, false, false] (by kernel_rfl) rfl rfl ⟨(blk_cell Bn.out 0).trans rfl, (blk_cell Bn.out 1).trans rfl, (blk_cell Bn.out 2).trans rfl, (blk_cell Bn.out 3).trans rfl, (blk_cell B2.out 0).trans rfl, (blk_cell B2.out 1).trans rfl, (blk_cell B2.out 2).trans rfl, (blk_cell B2.out 3).trans rfl, (blk_cell B2.out 4).trans rfl, (blk_cell B2.out 5).trans rfl, (blk_cell B2.out 6).trans rfl, (blk_cell B2.out 7).trans rfl, (blk_cell B2.out 8).trans rfl, (blk_cell B2.out 9).trans rfl, (blk_cell B2.out 10).trans rfl, (blk_cell B2.out 11).trans rfl⟩ (fun hHeld => ?_); refine with_tabW round_Play.tab11 round_Play.bits11 (fun HT_ HW_ => ?_)
            generalize w61.drew = w62 at Da Bx Bs B3 B5 B2 Bn Db HB hHeld ⊢
            refine pur_ 0 (some 56) rfl rfl (any_of HT_.out (by kernel_rfl)) ?_
            refine pur_ 2 (some 58) rfl rfl (any_of HT_.out (by kernel_rfl)) ?_
            refine pur_ 4 (some 60) rfl rfl (any_of HT_.out (by kernel_rfl)) ?_
            refine pur_ 5 (some 61) rfl rfl (any_of HT_.out (by kernel_rfl)) ?_
            refine tak_ 1 (some 57) rfl rfl (take_ofW HT_.out HW_.out (by kernel_rfl)) hHeld ?_ (by rintro w' ⟨s0, s1, s2, s3, s4, s5, s6, s7, s8, s9, s10, s11, s12, s13, s14, s15⟩; (first | (refine load_cells_12 (ty := 47) (x := .tmp 13) (g := B0) ?hlo_ ?hx_ Try.underlying47 ?hd_ ?hi_ s4 s5 s6 s7 s8 s9 s10 s11 s12 s13 s14 s15; (case hlo_ => rfl); (case hx_ => rfl); (case hd_ => rfl); (case hi_ => kernel_rfl)) | (go_simp; with_reducible rfl)))
            refine tak_ 3 (some 59) rfl rfl (take_ofW HT_.out HW_.out (by kernel_rfl)) hHeld ?_ (by rintro w' ⟨s0, s1, s2, s3, s4, s5, s6, s7, s8, s9, s10, s11, s12, s13, s14, s15⟩; (first | (refine load_cells_12 (ty := 47) (x := .tmp 13) (g := B0) ?hlo_ ?hx_ Try.underlying47 ?hd_ ?hi_ s4 s5 s6 s7 s8 s9 s10 s11 s12 s13 s14 s15; (case hlo_ => rfl); (case hx_ => rfl); (case hd_ => rfl); (case hi_ => kernel_rfl)) | (go_simp; with_reducible rfl)))
            refine tak_ 6 (some 62) rfl rfl (take_ofW HT_.out HW_.out (by kernel_rfl)) hHeld ?_ (by rintro w' ⟨s0, s1, s2, s3, s4, s5, s6, s7, s8, s9, s10, s11, s12, s13, s14, s15⟩; (first | (refine load_cells_12 (ty := 47) (x := .tmp 13) (g := B0) ?hlo_ ?hx_ Try.underlying47 ?hd_ ?hi_ s4 s5 s6 s7 s8 s9 s10 s11 s12 s13 s14 s15; (case hlo_ => rfl); (case hx_ => rfl); (case hd_ => rfl); (case hi_ => kernel_rfl)) | (go_simp; with_reducible rfl)))
            refine oon_ 7 (some 63) rfl rfl (one_of HT_.out (by kernel_rfl)) (fun K hK => ?_)
            refine gos_ Try.func23 (round_deliverP.calls k1 B9 Be Bf Bg Bh Bi Bj Bk Bd Bl _ _ B4 _ _ l1 B9 Be Bf Bg Bh Bi Bj Bk Bd Bl _ _ B4 _ _ l1 _ _ (rd_L3 l5 (rd By Bv)) _ _ D4 D5 Fp _ (Kd.C_below D7.out HB.out) D8.out (Kd.C_below Fm.out HB.out) Fn.out (Kd.C_below D7.out HB.out) D8.out (Kd.C_below Fm.out HB.out) Fn.out ?side9 ?side10 (Kd.R_reads' Bx.out).2.2 (Kd.R_reads' Bx.out).2.1 Vx.out B2.out Db.out Bn.out) ?_
            (case side9 => exact (Kd.C_below Gf.out HB.out))
            (case side10 => exact Gg.out)
            rintro e w63 ⟨v424, rfl, E9, hb⟩
            refine ⟨_, rfl, ?_⟩
            replace Da := am_ (Kd.R_below Da.out hb)
            replace Bx := am_ (Kd.R_below Bx.out hb)
            replace Bs := am_ (Kd.N_elder' (by (with_reducible repeat (first | apply Kd.N_alloc | apply Kd.N_drewN | apply Kd.N_drew)); exact Bs.out) (Kd.R_base E9) hb)
            have G9 := am_ (Kd.R_lower (Kd.R_newM (M := fun k_ => (w.heap.size ≤ k_)) E9 (below_size HB.out) (fun k_ h_ => h_)) (below_size HB.out))
            replace B3 := bkb_ B3 hb
            replace B5 := bkb_ B5 hb
            replace B2 := bkb_ B2 hb
            replace Bn := bkb_ Bn hb
            replace Db := bkb_ Db hb
            replace HB := bst_ HB hb
            (try clear hb)
            (try clear hb2)
            (try clear hk)
            (try clear hi)
            (try clear E9)
            have O9 : 0 ≤ ((rd By Bv) : Int) := of_decide_eq_true (by first | (with_reducible assumption) | assumption)
            have Oa : ((rd By Bv) : Int) < ((Bw.length : Int) : Int) := of_decide_eq_true (by first | (with_reducible assumption) | assumption)
            obtain ⟨Fg, J3, L0, L1, Ob, Vy, L2⟩ := Kd.N_form Bs.out (by omega)
            (first | cases L0 | (injection L0 with ea_ en_ ec_; (first | subst ea_ | (injection ea_ with ea_; subst ea_)); subst ec_; clear en_))
            have Oc := am_ L1
            have L3 := am_ L2
            clear L1 Ob L2
            obtain ⟨Vz, L4, L5, Gm, Gp⟩ := Kd.N_elem Bs.out [] ((rd By Bv) : Int) O9 Oa
            obtain ⟨Od, Oe, rfl, Of, Og⟩ := Kd.FK_slice_open L5
            have J4 := Gm 0 _ rfl
            have J5 := Gp 0
            (try simp only [show ((Kd.slice 45 k45)).sz = 1 from rfl, Nat.mul_one, Nat.add_zero] at J4)
            (try simp only [show ((Kd.slice 45 k45)).sz = 1 from rfl, Nat.mul_one, Nat.add_zero] at J5)
            clear L4 Gm Gp L5
            replace O9 := eq_true O9
            replace Oa := eq_true Oa
            have Gh := am_ (show Kd.N (Kd.slice 45 k45) 42 _ w.heap.size (fun k_ => (w.heap.size ≤ k_) ∧ some k_ ≠ (.slice (some Ed) By.length Et : Value).ownBlock ∧ some k_ ≠ (.slice Dw D4.length Dx : Value).ownBlock ∧ some k_ ≠ (v424 : Value).ownBlock ∧ k_ ≠ B1 ∧ k_ ≠ Bb ∧ k_ ≠ B0 ∧ k_ ≠ B6 ∧ k_ ≠ D6) (.slice (some ⟨Fg, 0, none⟩) Bw.length J3) Bw from (Kd.N_mono (Bs.out) (fun k_ hk => ⟨hk.1.1, ⟨hk.1.2.1, ⟨hk.1.2.2.1, ⟨hk.2, ⟨hk.1.2.2.2.1, ⟨hk.1.2.2.2.2.1, ⟨hk.1.2.2.2.2.2.1, ⟨hk.1.2.2.2.2.2.2.1, hk.1.2.2.2.2.2.2.2⟩⟩⟩⟩⟩⟩⟩⟩)))
            replace Gh := am_ (show Kd.N (Kd.slice 45 k45) 42 _ w.heap.size (fun k_ => (w.heap.size ≤ k_) ∧ some k_ ≠ (.slice (some Ed) By.length Et : Value).ownBlock ∧ some k_ ≠ (.slice Dw D4.length Dx : Value).ownBlock ∧ k_ ≠ B1 ∧ k_ ≠ Bb ∧ k_ ≠ B0 ∧ k_ ≠ B6 ∧ k_ ≠ D6) (.slice (some ⟨Fg, 0, none⟩) Bw.length J3) Bw from Kd.N_mono Gh.out (fun k_ hk => ⟨hk.1, ⟨hk.2.1, ⟨hk.2.2.1, ⟨hk.2.2.2.2.1, ⟨hk.2.2.2.2.2.1, ⟨hk.2.2.2.2.2.2.1, ⟨hk.2.2.2.2.2.2.2.1, hk.2.2.2.2.2.2.2.2⟩⟩⟩⟩⟩⟩⟩))
            obtain ⟨X0, Gq, L6, Gr, L7⟩ := Kd.N_elem Gh.out [] ((rd By Bv) : Int) (of_decide_eq_true (by first | (with_reducible assumption) | assumption)) (by have h_ : ((rd By Bv) : Int) < ((Bw.length : Int) : Int) := of_decide_eq_true (by first | (with_reducible assumption) | assumption); first | exact h_ | (have e_ := (Kd.N_reads' Bs.out).1; omega) | simpa using h_)
            obtain ⟨Oh, Oi, rfl, Oj, Ok⟩ := Kd.FK_slice_open L6
            obtain ⟨J6, J7, Ol⟩ := Kd.R_slice G9.out
            subst Ol
            have Gi := (Kd.N_seg Gh.out ((rd By Bv) : Int) (of_decide_eq_true (by first | (with_reducible assumption) | assumption)) (by have h_ : ((rd By Bv) : Int) < ((Bw.length : Int) : Int) := of_decide_eq_true (by first | (with_reducible assumption) | assumption); first | exact h_ | (have e_ := (Kd.N_reads' Bs.out).1; omega) | simpa using h_) (seg := [(.slice J6 Fp.length J7)]) (j := 0) Gq Gr (show 1 ≤ 1 from by decide) (x' := Fp) (Kd.FK_slice_mk (Kd.R_reads' (Kd.R_mono (ok' := (fun k_ => ((fun k_ => (w.heap.size ≤ k_) ∧ some k_ ≠ (.slice (some Ed) By.length Et : Value).ownBlock ∧ some k_ ≠ (.slice Dw D4.length Dx : Value).ownBlock ∧ k_ ≠ B1 ∧ k_ ≠ Bb ∧ k_ ≠ B0 ∧ k_ ≠ B6 ∧ k_ ≠ D6)) k_ ∧ k_ ≠ Fg)) (Kd.R_types (Kd.R_types (Kd.R_types (Kd.R_types (Kd.R_types (Kd.R_apart' (Kd.R_apart' (Kd.R_apart' (G9.out) (Kd.R_typed Da.out) (by decide)) (Kd.R_typed Bx.out) (by decide)) (Kd.N_typed Bs.out) (by decide)) B3.out (by decide)) B5.out (by decide)) B2.out (by decide)) Bn.out (by decide)) Db.out (by decide)) (fun k_ hk => ⟨⟨hk.1.1.1.1.1.1.1.1.1, ⟨hk.1.1.1.1.1.1.1.2, ⟨hk.1.1.1.1.1.1.2, ⟨hk.1.1.1.1.2, ⟨hk.1.1.1.2, ⟨hk.1.1.2, ⟨hk.1.2, hk.2⟩⟩⟩⟩⟩⟩⟩, fun e_ => (hk.1.1.1.1.1.2) (by rw [e_]; rfl)⟩))).2.1 (Kd.R_F (Kd.R_mono (ok' := (fun k_ => ((fun k_ => (w.heap.size ≤ k_) ∧ some k_ ≠ (.slice (some Ed) By.length Et : Value).ownBlock ∧ some k_ ≠ (.slice Dw D4.length Dx : Value).ownBlock ∧ k_ ≠ B1 ∧ k_ ≠ Bb ∧ k_ ≠ B0 ∧ k_ ≠ B6 ∧ k_ ≠ D6)) k_ ∧ k_ ≠ Fg)) (Kd.R_types (Kd.R_types (Kd.R_types (Kd.R_types (Kd.R_types (Kd.R_apart' (Kd.R_apart' (Kd.R_apart' (G9.out) (Kd.R_typed Da.out) (by decide)) (Kd.R_typed Bx.out) (by decide)) (Kd.N_typed Bs.out) (by decide)) B3.out (by decide)) B5.out (by decide)) B2.out (by decide)) Bn.out (by decide)) Db.out (by decide)) (fun k_ hk => ⟨⟨hk.1.1.1.1.1.1.1.1.1, ⟨hk.1.1.1.1.1.1.1.2, ⟨hk.1.1.1.1.1.1.2, ⟨hk.1.1.1.1.2, ⟨hk.1.1.1.2, ⟨hk.1.1.2, ⟨hk.1.2, hk.2⟩⟩⟩⟩⟩⟩⟩, fun e_ => (hk.1.1.1.1.1.2) (by rw [e_]; rfl)⟩)))) (fun _ hk => hk)).1
            (try simp only [show ((Kd.slice 45 k45)).sz = 1 from rfl, Nat.mul_one, Nat.add_zero] at Gi)
            rw [← Jz.out] at Gi
            have Om := am_ Gi
            clear Gq Gr L7 L6 Gi
            refine hK.out _ _ ⟨(blk_cell Bn.out 0).trans rfl, (blk_cell Bn.out 1).trans rfl, (blk_cell Bn.out 2).trans rfl, (blk_cell Bn.out 3).trans rfl, (cells_12 B2.out)⟩ (fun hHeld => ?_)
            clear hK K
            refine nor_ 63 ?_
            refine pur_ 8 (some 64) rfl rfl (any_of HT_.out (by kernel_rfl)) ?_
            refine last_ (i := 9) (N := none) #[true, true, true, true, true, true, true, true, true, true] rfl rfl (one_of HT_.out (by kernel_rfl)) (by decide) (fun K hK => ?_)
            refine skip_ (w1 := ?_) (by rfl) rfl ?_ ?_
            rotate_left
            ·go_simp
             rfl
            refine hK.out _ _ ?_
            clear hK K
            refine done_ (done_of HT_.out (by kernel_rfl)) ?_
            try go_wp2
            go_roundg k1
            case measure => have := Mb.out; omega
            case rel => exact ⟨(wrap64 (Bv + 1)), (y426), (.slice (some ⟨Fg, 0, none⟩) Bw.length J3), (by first | rfl | (simp; done) | (simp [*]; done)), H', ⟨by have := Mb.out; omega⟩, ⟨by (with_reducible repeat (first | apply Kd.R_alloc | apply Kd.R_drewN | apply Kd.R_drew)); exact Kd.R_mono (Kd.R_far (p := ⟨Fg, ((rd By Bv) : Int).toNat, none⟩) (Kd.R_types Da.out L3.out (by decide)) (fun _ hk => hk.2) ((.slice J6 Fp.length J7))) (fun _ hk => hk.1)⟩, ⟨by (with_reducible repeat (first | apply Kd.R_alloc | apply Kd.R_drewN | apply Kd.R_drew)); exact Kd.R_mono (Kd.R_far (p := ⟨Fg, ((rd By Bv) : Int).toNat, none⟩) (Kd.R_types Bx.out L3.out (by decide)) (fun _ hk => hk.2) ((.slice J6 Fp.length J7))) (fun _ hk => hk.1)⟩, ⟨by (with_reducible repeat (first | apply Kd.N_alloc | apply Kd.N_drewN | apply Kd.N_drew)); exact Kd.N_mono Om.out (fun _ hk => ⟨hk.1, ⟨hk.2.1, ⟨hk.2.2.1, ⟨hk.2.2.2.1, ⟨hk.2.2.2.2.1, ⟨hk.2.2.2.2.2.1, hk.2.2.2.2.2.2.1⟩⟩⟩⟩⟩⟩)⟩, ⟨by (with_reducible repeat (first | apply kn_ | apply kd_ | apply ka_)); refine blk_far ?_ (by have h_ := Kd.N_away Bs.out (fun _ hk => by first | exact hk.1.2.2.2.1 | exact hk.1.1.2.2.2.1 | exact hk.2.2.2.1 | exact hk.1.1.2.2.2); intro e_; exact h_ (by rw [e_]; rfl)) _; (with_reducible repeat (first | apply kn_ | apply kd_ | apply ka_)); exact B3.out⟩, ⟨by (with_reducible repeat (first | apply kn_ | apply kd_ | apply ka_)); refine blk_far ?_ (by have h_ := Kd.N_away Bs.out (fun _ hk => by first | exact hk.1.2.2.2.2.1 | exact hk.1.1.2.2.2.2.1 | exact hk.2.2.2.2.1 | exact hk.1.1.2.2.2.2); intro e_; exact h_ (by rw [e_]; rfl)) _; (with_reducible repeat (first | apply kn_ | apply kd_ | apply ka_)); exact B5.out⟩, ⟨by (with_reducible repeat (first | apply kn_ | apply kd_ | apply ka_)); refine blk_far ?_ (by have h_ := Kd.N_away Bs.out (fun _ hk => by first | exact hk.1.2.2.2.2.2.1 | exact hk.1.1.2.2.2.2.2.1 | exact hk.2.2.2.2.2.1 | exact hk.1.1.2.2.2.2.2); intro e_; exact h_ (by rw [e_]; rfl)) _; (with_reducible repeat (first | apply kn_ | apply kd_ | apply ka_)); exact B2.out⟩, ⟨by (with_reducible repeat (first | apply kn_ | apply kd_ | apply ka_)); refine blk_far ?_ (by have h_ := Kd.N_away Bs.out (fun _ hk => by first | exact hk.1.2.2.2.2.2.2.1 | exact hk.1.1.2.2.2.2.2.2.1 | exact hk.2.2.2.2.2.2.1 | exact hk.1.1.2.2.2.2.2.2); intro e_; exact h_ (by rw [e_]; rfl)) _; (with_reducible repeat (first | apply kn_ | apply kd_ | apply ka_)); exact Bn.out⟩, ⟨by repeat (first | (with_reducible first | exact HB.out | apply ba_ | apply bn_ | apply bd_ | refine bs_ ?_ Oc.out | refine bs_ ?_ D0.out | refine bs_ ?_ D1.out | refine bs_ ?_ D2.out | refine bs_ ?_ Bu.out | refine bs_ ?_ Fj.out) | exact HB.out)⟩⟩
           ·rw [if_neg Mf] at H
            exact absurd H (by simp)
          ·rw [if_neg Me] at H
           exact absurd H (by simp)
         ·rw [if_neg Jg] at H
          have Jy : decide ((rd By Bv) < (l5.length : Int)) = false := decide_eq_false Jg
          clear Jg
          obtain ⟨Fq, X1, H⟩ := bes_ H
          try dsimp only at H
          by_cases Mi : 0 ≤ (rd By Bv)
          ·rw [if_pos Mi] at H
           have V6 : decide (0 ≤ (rd By Bv)) = true := decide_eq_true Mi
           clear Mi
           by_cases Mj : (rd By Bv) < (Bw.length : Int)
           ·rw [if_pos Mj] at H
            have V7 : decide ((rd By Bv) < (Bw.length : Int)) = true := decide_eq_true Mj
            clear Mj
            obtain ⟨y430, hy430⟩ : ∃ y_ : List (List (S45)), y_ = (Bw.set ((rd By Bv) : Int).toNat Fq) := ⟨_, rfl⟩
            replace H : (round_Play.l0 k1 l5 By (By.length : Int) (wrap64 (Bv + 1)) B9 Be Bf Bg Bh Bi Bj Bk Bd Bl B4 l1 D5 Dc D4 y430) = some (r1, r2, r3, r4) := by first | (rw [hy430]; with_reducible exact H) | (have Fu := (Option.bind_some _ _).symm.trans H; rw [hy430]; with_reducible exact Fu) | (have Fu := (Option.bind_some _ _).symm.trans H; with_reducible exact Fu) | with_reducible exact H | (rw [hy430]; exact H) | exact H
            have L8 := am_ hy430
            clear hy430
            have H' := am_ H
            clear H
            have Fe : 0 ≤ (Bv : Int) := of_decide_eq_true (by first | (with_reducible assumption) | assumption)
            have Ff : Bv < (By.length : Int) := of_decide_eq_true (by first | (with_reducible assumption) | assumption)
            obtain ⟨Ed, J0, Ge⟩ := Kd.at_int (Kd.R_reads' Da.out).2.2 Bv Fe Ff
            cases J0
            replace Fe := eq_true Fe
            replace Ff := eq_true Ff
            try go_wp2_with (first | ((with_reducible refine gate_load (t := 47) (x := .tmp 13) rfl ?_); refine lrg_ 47 (.tmp 13) B0 47 (by (with_reducible repeat (first | apply kn_ | apply kd_ | apply ka_)); with_reducible exact B2.out) Try.underlying47 ?_) | ((with_reducible refine gate_dst (N := 17) rfl ?_); refine bxe_ 17 42 #[.slice none 0 0] ?_; intro D6 hg w69 hbox hb; replace Da := am_ (Kd.R_below Da.out hb); replace Bx := am_ (Kd.R_below Bx.out hb); replace Bs := am_ (Kd.N_below (Kd.N_elderB (by (with_reducible repeat (first | apply Kd.N_alloc | apply Kd.N_drewN | apply Kd.N_drew)); exact Bs.out) D6 (Nat.le_of_eq hg.symm)) hb); have Db := am_ (hbox); have G8 := gwk_ HB hg; have Fj := G8; replace HB := bst_ HB hb; have E5 := nbk_ B3 hg; have F1 := nbs_ E5; replace B3 := bkb_ B3 hb; have E6 := nbk_ B5 hg; have F2 := nbs_ E6; replace B5 := bkb_ B5 hb; have E7 := nbk_ B2 hg; have F3 := nbs_ E7; replace B2 := bkb_ B2 hb; have E8 := nbk_ Bn hg; have F4 := nbs_ E8; replace Bn := bkb_ Bn hb; clear hb hbox hg))
            replace Da := am_ (Kd.R_drew Da.out)
            replace Bx := am_ (Kd.R_drew Bx.out)
            replace Bs := am_ (Kd.N_drew Bs.out)
            replace B3 := am_ (blk_drew B3.out)
            replace B5 := am_ (blk_drew B5.out)
            replace B2 := am_ (blk_drew B2.out)
            replace Bn := am_ (blk_drew Bn.out)
            replace Db := am_ (blk_drew Db.out)
            replace HB := am_ (below_drew1 HB.out)
            refine start_ (n := 10) (S := fun w' => ce_ w' B6 0 (.int .i64 D5) ∧ ce_ w' B6 1 (.string Dc) ∧ ce_ w' B6 2 (.slice Dw D4.length Dx) ∧ ce_ w' B6 3 (u417003) ∧ ce_ w' B0 0 (.int .i64 B9) ∧ ce_ w' B0 1 (.int .i64 Be) ∧ ce_ w' B0 2 (.int .i64 Bf) ∧ ce_ w' B0 3 (.int .i64 Bg) ∧ ce_ w' B0 4 (.int .i64 Bh) ∧ ce_ w' B0 5 (.int .i64 Bi) ∧ ce_ w' B0 6 (.int .i64 Bj) ∧ ce_ w' B0 7 (.int .i64 Bk) ∧ ce_ w' B0 8 (.int .i64 Bd) ∧ ce_ w' B0 9 (.int .i64 Bl) ∧ ce_ w' B0 10 (.slice B7 B4.length B8) ∧ ce_ w' B0 11 (.slice A1 l1.length c1)) (ds := [9]) #[false, false, false, false, false, false, false, false, false, false] (by kernel_rfl) rfl rfl ⟨(blk_cell Bn.out 0).trans rfl, (blk_cell Bn.out 1).trans rfl, (blk_cell Bn.out 2).trans rfl, (blk_cell Bn.out 3).trans rfl, (blk_cell B2.out 0).trans rfl, (blk_cell B2.out 1).trans rfl, (blk_cell B2.out 2).trans rfl, (blk_cell B2.out 3).trans rfl, (blk_cell B2.out 4).trans rfl, (blk_cell B2.out 5).trans rfl, (blk_cell B2.out 6).trans rfl, (blk_cell B2.out 7).trans rfl, (blk_cell B2.out 8).trans rfl, (blk_cell B2.out 9).trans rfl, (blk_cell B2.out 10).trans rfl, (blk_cell B2.out 11).trans rfl⟩ (fun hHeld => ?_); refine with_tabW round_Play.tab11 round_Play.bits11 (fun HT_ HW_ => ?_)
            generalize w69.drew = w70 at Da Bx Bs B3 B5 B2 Bn Db HB hHeld ⊢
            refine pur_ 0 (some 56) rfl rfl (any_of HT_.out (by kernel_rfl)) ?_
            refine pur_ 2 (some 58) rfl rfl (any_of HT_.out (by kernel_rfl)) ?_
            refine pur_ 4 (some 60) rfl rfl (any_of HT_.out (by kernel_rfl)) ?_
            refine pur_ 5 (some 61) rfl rfl (any_of HT_.out (by kernel_rfl)) ?_
            refine tak_ 1 (some 57) rfl rfl (take_ofW HT_.out HW_.out (by kernel_rfl)) hHeld ?_ (by rintro w' ⟨s0, s1, s2, s3, s4, s5, s6, s7, s8, s9, s10, s11, s12, s13, s14, s15⟩; (first | (refine load_cells_12 (ty := 47) (x := .tmp 13) (g := B0) ?hlo_ ?hx_ Try.underlying47 ?hd_ ?hi_ s4 s5 s6 s7 s8 s9 s10 s11 s12 s13 s14 s15; (case hlo_ => rfl); (case hx_ => rfl); (case hd_ => rfl); (case hi_ => kernel_rfl)) | (go_simp; with_reducible rfl)))
            refine tak_ 3 (some 59) rfl rfl (take_ofW HT_.out HW_.out (by kernel_rfl)) hHeld ?_ (by rintro w' ⟨s0, s1, s2, s3, s4, s5, s6, s7, s8, s9, s10, s11, s12, s13, s14, s15⟩; (first | (refine load_cells_12 (ty := 47) (x := .tmp 13) (g := B0) ?hlo_ ?hx_ Try.underlying47 ?hd_ ?hi_ s4 s5 s6 s7 s8 s9 s10 s11 s12 s13 s14 s15; (case hlo_ => rfl); (case hx_ => rfl); (case hd_ => rfl); (case hi_ => kernel_rfl)) | (go_simp; with_reducible rfl)))
            refine tak_ 6 (some 62) rfl rfl (take_ofW HT_.out HW_.out (by kernel_rfl)) hHeld ?_ (by rintro w' ⟨s0, s1, s2, s3, s4, s5, s6, s7, s8, s9, s10, s11, s12, s13, s14, s15⟩; (first | (refine load_cells_12 (ty := 47) (x := .tmp 13) (g := B0) ?hlo_ ?hx_ Try.underlying47 ?hd_ ?hi_ s4 s5 s6 s7 s8 s9 s10 s11 s12 s13 s14 s15; (case hlo_ => rfl); (case hx_ => rfl); (case hd_ => rfl); (case hi_ => kernel_rfl)) | (go_simp; with_reducible rfl)))
            refine oon_ 7 (some 63) rfl rfl (one_of HT_.out (by kernel_rfl)) (fun K hK => ?_)
            refine gos_ Try.func23 (round_deliverP.calls k1 B9 Be Bf Bg Bh Bi Bj Bk Bd Bl _ _ B4 _ _ l1 B9 Be Bf Bg Bh Bi Bj Bk Bd Bl _ _ B4 _ _ l1 _ _ ([] : List (S45)) _ _ D4 D5 Fq _ (Kd.C_below D7.out HB.out) D8.out (Kd.C_below Fm.out HB.out) Fn.out (Kd.C_below D7.out HB.out) D8.out (Kd.C_below Fm.out HB.out) Fn.out ?side9 ?side10 (Kd.R_reads' Bx.out).2.2 (Kd.R_reads' Bx.out).2.1 X1.out B2.out Db.out Bn.out) ?_
            (case side9 => exact Kd.C_nil _ _)
            (case side10 => exact Nat.le_refl _)
            rintro e w71 ⟨v428, rfl, E9, hb⟩
            refine ⟨_, rfl, ?_⟩
            replace Da := am_ (Kd.R_below Da.out hb)
            replace Bx := am_ (Kd.R_below Bx.out hb)
            replace Bs := am_ (Kd.N_elder' (by (with_reducible repeat (first | apply Kd.N_alloc | apply Kd.N_drewN | apply Kd.N_drew)); exact Bs.out) (Kd.R_base E9) hb)
            have Ga := am_ (Kd.R_lower (Kd.R_newM (M := fun k_ => (w.heap.size ≤ k_)) E9 (below_size HB.out) (fun k_ h_ => h_)) (below_size HB.out))
            replace B3 := bkb_ B3 hb
            replace B5 := bkb_ B5 hb
            replace B2 := bkb_ B2 hb
            replace Bn := bkb_ Bn hb
            replace Db := bkb_ Db hb
            replace HB := bst_ HB hb
            (try clear hb)
            (try clear hb2)
            (try clear hk)
            (try clear hi)
            (try clear E9)
            have On : 0 ≤ ((rd By Bv) : Int) := of_decide_eq_true (by first | (with_reducible assumption) | assumption)
            have Oo : ((rd By Bv) : Int) < ((Bw.length : Int) : Int) := of_decide_eq_true (by first | (with_reducible assumption) | assumption)
            obtain ⟨Fh, J8, L9, La, Op, X2, Lb⟩ := Kd.N_form Bs.out (by omega)
            (first | cases L9 | (injection L9 with ea_ en_ ec_; (first | subst ea_ | (injection ea_ with ea_; subst ea_)); subst ec_; clear en_))
            have Oq := am_ La
            have Lc := am_ Lb
            clear La Op Lb
            obtain ⟨X3, Ld, Le, Gs, Gt⟩ := Kd.N_elem Bs.out [] ((rd By Bv) : Int) On Oo
            obtain ⟨Or, Os, rfl, Ot, Ou⟩ := Kd.FK_slice_open Le
            have J9 := Gs 0 _ rfl
            have Ja := Gt 0
            (try simp only [show ((Kd.slice 45 k45)).sz = 1 from rfl, Nat.mul_one, Nat.add_zero] at J9)
            (try simp only [show ((Kd.slice 45 k45)).sz = 1 from rfl, Nat.mul_one, Nat.add_zero] at Ja)
            clear Ld Gs Gt Le
            replace On := eq_true On
            replace Oo := eq_true Oo
            have Gj := am_ (show Kd.N (Kd.slice 45 k45) 42 _ w.heap.size (fun k_ => (w.heap.size ≤ k_) ∧ some k_ ≠ (.slice (some Ed) By.length Et : Value).ownBlock ∧ some k_ ≠ (.slice Dw D4.length Dx : Value).ownBlock ∧ some k_ ≠ (v428 : Value).ownBlock ∧ k_ ≠ B1 ∧ k_ ≠ Bb ∧ k_ ≠ B0 ∧ k_ ≠ B6 ∧ k_ ≠ D6) (.slice (some ⟨Fh, 0, none⟩) Bw.length J8) Bw from (Kd.N_mono (Bs.out) (fun k_ hk => ⟨hk.1.1.1, ⟨hk.1.1.2.1, ⟨hk.1.1.2.2.1, ⟨hk.2, ⟨hk.1.1.2.2.2.1, ⟨hk.1.1.2.2.2.2.1, ⟨hk.1.1.2.2.2.2.2.1, ⟨hk.1.1.2.2.2.2.2.2, hk.1.2⟩⟩⟩⟩⟩⟩⟩⟩)))
            replace Gj := am_ (show Kd.N (Kd.slice 45 k45) 42 _ w.heap.size (fun k_ => (w.heap.size ≤ k_) ∧ some k_ ≠ (.slice (some Ed) By.length Et : Value).ownBlock ∧ some k_ ≠ (.slice Dw D4.length Dx : Value).ownBlock ∧ k_ ≠ B1 ∧ k_ ≠ Bb ∧ k_ ≠ B0 ∧ k_ ≠ B6 ∧ k_ ≠ D6) (.slice (some ⟨Fh, 0, none⟩) Bw.length J8) Bw from Kd.N_mono Gj.out (fun k_ hk => ⟨hk.1, ⟨hk.2.1, ⟨hk.2.2.1, ⟨hk.2.2.2.2.1, ⟨hk.2.2.2.2.2.1, ⟨hk.2.2.2.2.2.2.1, ⟨hk.2.2.2.2.2.2.2.1, hk.2.2.2.2.2.2.2.2⟩⟩⟩⟩⟩⟩⟩))
            obtain ⟨X4, Gu, Lf, Gv, Lg⟩ := Kd.N_elem Gj.out [] ((rd By Bv) : Int) (of_decide_eq_true (by first | (with_reducible assumption) | assumption)) (by have h_ : ((rd By Bv) : Int) < ((Bw.length : Int) : Int) := of_decide_eq_true (by first | (with_reducible assumption) | assumption); first | exact h_ | (have e_ := (Kd.N_reads' Bs.out).1; omega) | simpa using h_)
            obtain ⟨Ov, Ow, rfl, Ox, Oy⟩ := Kd.FK_slice_open Lf
            obtain ⟨Jb, Jc, Oz⟩ := Kd.R_slice Ga.out
            subst Oz
            have Gk := (Kd.N_seg Gj.out ((rd By Bv) : Int) (of_decide_eq_true (by first | (with_reducible assumption) | assumption)) (by have h_ : ((rd By Bv) : Int) < ((Bw.length : Int) : Int) := of_decide_eq_true (by first | (with_reducible assumption) | assumption); first | exact h_ | (have e_ := (Kd.N_reads' Bs.out).1; omega) | simpa using h_) (seg := [(.slice Jb Fq.length Jc)]) (j := 0) Gu Gv (show 1 ≤ 1 from by decide) (x' := Fq) (Kd.FK_slice_mk (Kd.R_reads' (Kd.R_mono (ok' := (fun k_ => ((fun k_ => (w.heap.size ≤ k_) ∧ some k_ ≠ (.slice (some Ed) By.length Et : Value).ownBlock ∧ some k_ ≠ (.slice Dw D4.length Dx : Value).ownBlock ∧ k_ ≠ B1 ∧ k_ ≠ Bb ∧ k_ ≠ B0 ∧ k_ ≠ B6 ∧ k_ ≠ D6)) k_ ∧ k_ ≠ Fh)) (Kd.R_types (Kd.R_types (Kd.R_types (Kd.R_types (Kd.R_types (Kd.R_apart' (Kd.R_apart' (Kd.R_apart' (Ga.out) (Kd.R_typed Da.out) (by decide)) (Kd.R_typed Bx.out) (by decide)) (Kd.N_typed Bs.out) (by decide)) B3.out (by decide)) B5.out (by decide)) B2.out (by decide)) Bn.out (by decide)) Db.out (by decide)) (fun k_ hk => ⟨⟨hk.1.1.1.1.1.1.1.1.1, ⟨hk.1.1.1.1.1.1.1.2, ⟨hk.1.1.1.1.1.1.2, ⟨hk.1.1.1.1.2, ⟨hk.1.1.1.2, ⟨hk.1.1.2, ⟨hk.1.2, hk.2⟩⟩⟩⟩⟩⟩⟩, fun e_ => (hk.1.1.1.1.1.2) (by rw [e_]; rfl)⟩))).2.1 (Kd.R_F (Kd.R_mono (ok' := (fun k_ => ((fun k_ => (w.heap.size ≤ k_) ∧ some k_ ≠ (.slice (some Ed) By.length Et : Value).ownBlock ∧ some k_ ≠ (.slice Dw D4.length Dx : Value).ownBlock ∧ k_ ≠ B1 ∧ k_ ≠ Bb ∧ k_ ≠ B0 ∧ k_ ≠ B6 ∧ k_ ≠ D6)) k_ ∧ k_ ≠ Fh)) (Kd.R_types (Kd.R_types (Kd.R_types (Kd.R_types (Kd.R_types (Kd.R_apart' (Kd.R_apart' (Kd.R_apart' (Ga.out) (Kd.R_typed Da.out) (by decide)) (Kd.R_typed Bx.out) (by decide)) (Kd.N_typed Bs.out) (by decide)) B3.out (by decide)) B5.out (by decide)) B2.out (by decide)) Bn.out (by decide)) Db.out (by decide)) (fun k_ hk => ⟨⟨hk.1.1.1.1.1.1.1.1.1, ⟨hk.1.1.1.1.1.1.1.2, ⟨hk.1.1.1.1.1.1.2, ⟨hk.1.1.1.1.2, ⟨hk.1.1.1.2, ⟨hk.1.1.2, ⟨hk.1.2, hk.2⟩⟩⟩⟩⟩⟩⟩, fun e_ => (hk.1.1.1.1.1.2) (by rw [e_]; rfl)⟩)))) (fun _ hk => hk)).1
            (try simp only [show ((Kd.slice 45 k45)).sz = 1 from rfl, Nat.mul_one, Nat.add_zero] at Gk)
            rw [← L8.out] at Gk
            have R0 := am_ Gk
            clear Gu Gv Lg Lf Gk
            refine hK.out _ _ ⟨(blk_cell Bn.out 0).trans rfl, (blk_cell Bn.out 1).trans rfl, (blk_cell Bn.out 2).trans rfl, (blk_cell Bn.out 3).trans rfl, (cells_12 B2.out)⟩ (fun hHeld => ?_)
            clear hK K
            refine nor_ 63 ?_
            refine pur_ 8 (some 64) rfl rfl (any_of HT_.out (by kernel_rfl)) ?_
            refine last_ (i := 9) (N := none) #[true, true, true, true, true, true, true, true, true, true] rfl rfl (one_of HT_.out (by kernel_rfl)) (by decide) (fun K hK => ?_)
            refine skip_ (w1 := ?_) (by rfl) rfl ?_ ?_
            rotate_left
            ·go_simp
             rfl
            refine hK.out _ _ ?_
            clear hK K
            refine done_ (done_of HT_.out (by kernel_rfl)) ?_
            try go_wp2
            go_roundg k1
            case measure => have := Mb.out; omega
            case rel => exact ⟨(wrap64 (Bv + 1)), (y430), (.slice (some ⟨Fh, 0, none⟩) Bw.length J8), (by first | rfl | (simp; done) | (simp [*]; done)), H', ⟨by have := Mb.out; omega⟩, ⟨by (with_reducible repeat (first | apply Kd.R_alloc | apply Kd.R_drewN | apply Kd.R_drew)); exact Kd.R_mono (Kd.R_far (p := ⟨Fh, ((rd By Bv) : Int).toNat, none⟩) (Kd.R_types Da.out Lc.out (by decide)) (fun _ hk => hk.2) ((.slice Jb Fq.length Jc))) (fun _ hk => hk.1)⟩, ⟨by (with_reducible repeat (first | apply Kd.R_alloc | apply Kd.R_drewN | apply Kd.R_drew)); exact Kd.R_mono (Kd.R_far (p := ⟨Fh, ((rd By Bv) : Int).toNat, none⟩) (Kd.R_types Bx.out Lc.out (by decide)) (fun _ hk => hk.2) ((.slice Jb Fq.length Jc))) (fun _ hk => hk.1)⟩, ⟨by (with_reducible repeat (first | apply Kd.N_alloc | apply Kd.N_drewN | apply Kd.N_drew)); exact Kd.N_mono R0.out (fun _ hk => ⟨hk.1, ⟨hk.2.1, ⟨hk.2.2.1, ⟨hk.2.2.2.1, ⟨hk.2.2.2.2.1, ⟨hk.2.2.2.2.2.1, hk.2.2.2.2.2.2.1⟩⟩⟩⟩⟩⟩)⟩, ⟨by (with_reducible repeat (first | apply kn_ | apply kd_ | apply ka_)); refine blk_far ?_ (by have h_ := Kd.N_away Bs.out (fun _ hk => by first | exact hk.1.2.2.2.1 | exact hk.1.1.2.2.2.1 | exact hk.2.2.2.1 | exact hk.1.1.2.2.2); intro e_; exact h_ (by rw [e_]; rfl)) _; (with_reducible repeat (first | apply kn_ | apply kd_ | apply ka_)); exact B3.out⟩, ⟨by (with_reducible repeat (first | apply kn_ | apply kd_ | apply ka_)); refine blk_far ?_ (by have h_ := Kd.N_away Bs.out (fun _ hk => by first | exact hk.1.2.2.2.2.1 | exact hk.1.1.2.2.2.2.1 | exact hk.2.2.2.2.1 | exact hk.1.1.2.2.2.2); intro e_; exact h_ (by rw [e_]; rfl)) _; (with_reducible repeat (first | apply kn_ | apply kd_ | apply ka_)); exact B5.out⟩, ⟨by (with_reducible repeat (first | apply kn_ | apply kd_ | apply ka_)); refine blk_far ?_ (by have h_ := Kd.N_away Bs.out (fun _ hk => by first | exact hk.1.2.2.2.2.2.1 | exact hk.1.1.2.2.2.2.2.1 | exact hk.2.2.2.2.2.1 | exact hk.1.1.2.2.2.2.2); intro e_; exact h_ (by rw [e_]; rfl)) _; (with_reducible repeat (first | apply kn_ | apply kd_ | apply ka_)); exact B2.out⟩, ⟨by (with_reducible repeat (first | apply kn_ | apply kd_ | apply ka_)); refine blk_far ?_ (by have h_ := Kd.N_away Bs.out (fun _ hk => by first | exact hk.1.2.2.2.2.2.2.1 | exact hk.1.1.2.2.2.2.2.2.1 | exact hk.2.2.2.2.2.2.1 | exact hk.1.1.2.2.2.2.2.2); intro e_; exact h_ (by rw [e_]; rfl)) _; (with_reducible repeat (first | apply kn_ | apply kd_ | apply ka_)); exact Bn.out⟩, ⟨by repeat (first | (with_reducible first | exact HB.out | apply ba_ | apply bn_ | apply bd_ | refine bs_ ?_ Oq.out | refine bs_ ?_ D0.out | refine bs_ ?_ D1.out | refine bs_ ?_ D2.out | refine bs_ ?_ Bu.out | refine bs_ ?_ Fj.out) | exact HB.out)⟩⟩
           ·rw [if_neg Mj] at H
            exact absurd H (by simp)
          ·rw [if_neg Mi] at H
           exact absurd H (by simp)
        ·rw [if_neg Md] at H
         exact absurd H (by simp)
       ·rw [if_neg Mc] at H
        exact absurd H (by simp)
      ·rw [if_neg Jf] at H
       have Jx : decide (Bv < (By.length : Int)) = false := decide_eq_false Jf
       clear Jf
       simp only [Option.some.injEq, Prod.mk.injEq] at H
       obtain ⟨rfl, rfl, rfl, rfl⟩ := H
       have V8 := Bp.out
       have V9 := Bc.out
       have Va := Bq.out
       have Vb := Bm.out
       have Vc := Bo.out
       have Vd := Ba.out
       have Mk : wr.cell? ⟨B6, 0, none⟩ = some (.int .i64 D5) := (blk_cell Bn.out 0).trans rfl
       have Ml : wr.cell? ⟨B6, 1, none⟩ = some (.string Dc) := (blk_cell Bn.out 1).trans rfl
       have Mm : wr.cell? ⟨B6, 2, none⟩ = some (.slice Dw D4.length Dx) := (blk_cell Bn.out 2).trans rfl
       have Mn : wr.cell? ⟨B6, 3, none⟩ = some (u417003) := (blk_cell Bn.out 3).trans rfl
       have Mo := blk_frozen Bn.out 0
       have Mp := blk_frozen Bn.out 1
       have Mq := blk_frozen Bn.out 2
       have Mr := blk_frozen Bn.out 3
       have Ve := Ee.out
       have Vf := Dz.out
       have Vg := Ef.out
       have Vh := F0.out
       have Ms : wr.cell? ⟨Bb, 0, none⟩ = some (.int .i64 0) := (blk_cell B5.out 0).trans rfl
       have Mt : wr.cell? ⟨Bb, 1, none⟩ = some (.string (⟨#[]⟩ : ByteArray)) := (blk_cell B5.out 1).trans rfl
       have Mu : wr.cell? ⟨Bb, 2, none⟩ = some (.slice none 0 0) := (blk_cell B5.out 2).trans rfl
       have Mv : wr.cell? ⟨Bb, 3, none⟩ = some (.slice none 0 0) := (blk_cell B5.out 3).trans rfl
       have Mw := blk_frozen B5.out 0
       have Mx := blk_frozen B5.out 1
       have My := blk_frozen B5.out 2
       have Mz := blk_frozen B5.out 3
       obtain ⟨Jd, Je, R1⟩ := Kd.N_slice Bs.out
       subst R1
       go_wp2
       refine bodyPost_ret (results_cell_row rfl _ _ Bb 32 #[.int .i64 D5, .string Dc, .slice Dw D4.length Dx, .slice Jd Bw.length Je] (0, 0) _ rfl (by (with_reducible repeat (first | apply kn_ | apply kd_ | apply ka_)); refine blk_put (cs := #[.int .i64 D5, .string Dc, .slice Dw D4.length Dx, .slice none 0 0]) ?_ 3 _ rfl; (with_reducible repeat (first | apply kn_ | apply kd_ | apply ka_)); refine blk_put (cs := #[.int .i64 D5, .string Dc, .slice none 0 0, .slice none 0 0]) ?_ 2 _ rfl; (with_reducible repeat (first | apply kn_ | apply kd_ | apply ka_)); refine blk_put (cs := #[.int .i64 D5, .string (⟨#[]⟩ : ByteArray), .slice none 0 0, .slice none 0 0]) ?_ 1 _ rfl; (with_reducible repeat (first | apply kn_ | apply kd_ | apply ka_)); refine blk_put (cs := #[.int .i64 0, .string (⟨#[]⟩ : ByteArray), .slice none 0 0, .slice none 0 0]) ?_ 0 _ rfl; (with_reducible repeat (first | apply kn_ | apply kd_ | apply ka_)); exact B5.out) Try.underlying32 rfl (by kernel_rfl)) rfl ?_
       exact ⟨_, _, by first | rfl | (simp [*] <;> rfl), by (with_reducible repeat (first | apply Kd.R_alloc | apply Kd.R_drewN | apply Kd.R_drew)); exact Kd.R_mono (Kd.R_far (p := ⟨Bb, 3, none⟩) (Kd.R_far (p := ⟨Bb, 2, none⟩) (Kd.R_far (p := ⟨Bb, 1, none⟩) (Kd.R_far (p := ⟨Bb, 0, none⟩) (Kd.R_types Bx.out B5.out (by decide)) (fun _ hk => hk.2) (.int .i64 D5)) (fun _ hk => hk.2) (.string Dc)) (fun _ hk => hk.2) (.slice Dw D4.length Dx)) (fun _ hk => hk.2) (.slice Jd Bw.length Je)) (fun _ hk => hk.1), by (with_reducible repeat (first | apply Kd.N_alloc | apply Kd.N_drewN | apply Kd.N_drew)); exact Kd.N_mono (Kd.N_far (p := ⟨Bb, 3, none⟩) (Kd.N_far (p := ⟨Bb, 2, none⟩) (Kd.N_far (p := ⟨Bb, 1, none⟩) (Kd.N_far (p := ⟨Bb, 0, none⟩) (Kd.N_mono Bs.out (fun k_ hk => (⟨hk, hk.2.2.2.2.1⟩ : _ ∧ k_ ≠ Bb))) (fun _ hk => hk.2) (.int .i64 D5)) (fun _ hk => hk.2) (.string Dc)) (fun _ hk => hk.2) (.slice Dw D4.length Dx)) (fun _ hk => hk.2) (.slice Jd Bw.length Je)) (fun _ hk => ⟨hk.1.1, hk.1.2.2.1⟩), by repeat (first | (with_reducible first | exact HB.out | apply ba_ | apply bn_ | apply bd_ | refine bs_ ?_ D0.out | refine bs_ ?_ D1.out | refine bs_ ?_ D2.out | refine bs_ ?_ Bu.out) | exact HB.out)⟩
   ·rw [if_neg Ji] at H
    exact absurd H (by simp)
  ·rw [if_neg Jh] at H
   exact absurd H (by simp)
 ·rw [if_neg c8] at H
  have O1 : (Ft == 0) = false := beq_eq_false_iff_ne.mpr c8
  have O2 : (Ft != 0) = true := bne_iff_ne.mpr c8
  simp only [Option.some.injEq, Prod.mk.injEq] at H
  obtain ⟨rfl, rfl, rfl, rfl⟩ := H
  go_enter Try.func9, Try.ntmps9
  go_wp2_with (first | ((with_reducible refine gate_load (t := 47) (x := .tmp 13) rfl ?_); refine lrg_ 47 (.tmp 13) B0 47 (by (with_reducible repeat (first | apply kn_ | apply kd_ | apply ka_)); with_reducible exact B2.out) Try.underlying47 ?_) | ((with_reducible refine gate_dst (N := 6) rfl ?_); refine bxe_ 6 24 #[.int .i64 B9, .int .i64 Be, .int .i64 Bf, .int .i64 Bg, .int .i64 Bh, .int .i64 Bi, .int .i64 Bj, .int .i64 Bk, .int .i64 Bd, .int .i64 Bl, .slice B7 B4.length B8] ?_; intro B1 hg w81 hbox hb; have B3 := am_ (hbox); have Fv := gwk_ HB hg; have D0 := Fv; replace HB := bst_ HB hb; clear hb hbox hg) | ((with_reducible refine gate_dst (N := 12) rfl ?_); refine bxe_ 12 32 #[.int .i64 0, .string (⟨#[]⟩ : ByteArray), .slice none 0 0, .slice none 0 0] ?_; intro Bb hg w82 hbox hb; have B5 := am_ (hbox); have Fw := gwk_ HB hg; have D1 := Fw; replace HB := bst_ HB hb; have Dz := nbk_ B3 hg; have Ee := nbs_ Dz; replace B3 := bkb_ B3 hb; clear hb hbox hg; have Vi := Dz.out; have Vj := Ee.out; have Vk := cells_11 B3.out; have Vl := frozen_11 B3.out) | ((with_reducible refine gate_callee (f := 18) rfl ?_); refine gom_ (some 19) Try.func18 (conf_Plain.calls k B9 Be Bf Bg Bh Bi Bj Bk Bd Bl _ _ B4 _ _ (Kd.C_below D7.out HB.out) D8.out A7.out) ?_; rintro e w85 ⟨rfl, hb⟩; refine ⟨_, rfl, ?_⟩; replace B3 := bkb_ B3 hb; replace B5 := bkb_ B5 hb; replace HB := bst_ HB hb; (try clear hb); have Vm := cells_4 B5.out; have Vn := frozen_4 B5.out))
  refine bodyPost_ret (results_cell_row rfl _ _ Bb 32 #[.int .i64 0, .string (⟨#[]⟩ : ByteArray), .slice none 0 0, .slice none 0 0] (0, 0) _ rfl (by (with_reducible repeat (first | apply kn_ | apply kd_ | apply ka_)); refine blk_put (cs := #[.int .i64 0, .string (⟨#[]⟩ : ByteArray), .slice none 0 0, .slice none 0 0]) ?_ 3 _ rfl; (with_reducible repeat (first | apply kn_ | apply kd_ | apply ka_)); refine blk_put (cs := #[.int .i64 0, .string (⟨#[]⟩ : ByteArray), .slice none 0 0, .slice none 0 0]) ?_ 2 _ rfl; (with_reducible repeat (first | apply kn_ | apply kd_ | apply ka_)); refine blk_put (cs := #[.int .i64 0, .string (⟨#[]⟩ : ByteArray), .slice none 0 0, .slice none 0 0]) ?_ 1 _ rfl; (with_reducible repeat (first | apply kn_ | apply kd_ | apply ka_)); refine blk_put (cs := #[.int .i64 0, .string (⟨#[]⟩ : ByteArray), .slice none 0 0, .slice none 0 0]) ?_ 0 _ rfl; (with_reducible repeat (first | apply kn_ | apply kd_ | apply ka_)); exact B5.out) Try.underlying32 rfl (by kernel_rfl)) rfl ?_
  exact ⟨_, _, by first | rfl | (simp [*] <;> rfl), by first | exact Kd.R_nil _ _ _ _ _ | exact Kd.N_nil _ _ _ _ _ | exact Kd.V_nil _ _ _ _ _ | exact Kd.Q_nil _ _ _ _ _ | exact Kd.S_nil _ _ _ _ _, by first | exact Kd.S_nil _ _ _ _ _ | exact Kd.N_nil _ _ _ _ _ | exact Kd.V_nil _ _ _ _ _ | exact Kd.Q_nil _ _ _ _ _ | exact Kd.R_nil _ _ _ _ _, by repeat (first | (with_reducible first | exact HB.out | apply ba_ | apply bn_ | apply bd_ | refine bs_ ?_ D0.out | refine bs_ ?_ D1.out) | exact HB.out)⟩
end Go.Proofs.Ytdnccjlfongdeaa.Gn
