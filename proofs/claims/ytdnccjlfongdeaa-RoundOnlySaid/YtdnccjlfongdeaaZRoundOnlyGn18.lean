import Derived.Test.YtdnccjlfongdeaaZRoundOnlyGn0
import Derived.Test.YtdnccjlfongdeaaZRoundOnlyGn2
import Derived.Test.YtdnccjlfongdeaaZRoundOnlyGn10
namespace Go.Proofs.Ytdnccjlfongdeaa.Gn
open Go.RowKit Go.Proofs.YtdnccjlfongdeaaW.PrintWords Go.Proofs.YtdnccjlfongdeaaW.PrintLast Go.Proofs.YtdnccjlfongdeaaW.PrintMore
attribute [local go_sem] max2_int min2_int max_two min_two max_three min_three max_four min_four   -- for this text's walks alone
set_option linter.unusedVariables false
set_option linter.unusedSimpArgs false
def round_machine_message.j0 : Nat → Bool → Int → Int → Int → Int → Int → Int → Int → Int → Int → Int → List Int → List Int → Int → ByteArray → List ByteArray → List (List (S45)) → Int → Int → Int → ByteArray → Option (Int)
 | 0, _, _, _, _, _, _, _, _, _, _, _, _, _, _, _, _, _, _, _, _, _ => none
 | k + 1, x9, B5, B6, B7, B8, B9, Ba, Bb, Bc, Bd, Be, B1, Bf, Bg, Bi, B3, Bj, B0, B2, Bh, B4 => if x9 = true then (some 11) else (if 0 ≤ B2 then (if B2 < (B1.length : Int) then (if B0 = (rd B1 B2) then (if Bh = Bg then (if (B4.size : Int) > 16 then (some 15) else ((round_machine_lies.f k B5 B6 B7 B8 B9 Ba Bb Bc Bd Be B1 Bf B0).bind fun Bk => (if Bk = true then (some 0) else (if 0 ≤ B0 then (if B0 < (B3.length : Int) then (if B4.toList = (rdOf ByteArray.empty B3 B0).toList then (some 0) else (some 15)) else (none)) else (none))))) else (some 16)) else (some 12)) else (none)) else (none))
def round_machine_message.f (k : Nat) (B3 B4 B5 B6 B7 B8 B9 Ba Bb Bc : Int) (B0 B2 : List Int) (Bd : Int) (Be : ByteArray) (Bf : List ByteArray) (Bg : List (List (S45))) (Bh B1 Bi : Int) (Bj : ByteArray) (a3 : Int) : Option (Int) := if B1 ≤ a3 then (round_machine_message.j0 k (decide (B1 ≤ a3)) B3 B4 B5 B6 B7 B8 B9 Ba Bb Bc B0 B2 Bd Be Bf Bg Bh B1 Bi Bj) else (round_machine_message.j0 k (decide (B1 ≥ (B0.length : Int))) B3 B4 B5 B6 B7 B8 B9 Ba Bb Bc B0 B2 Bd Be Bf Bg Bh B1 Bi Bj)
theorem round_machine_message.mono_l : ∀ k, (∀ y0 y1 y2 y3 y4 y5 y6 y7 y8 y9 B0 B1 B2 B3 B4 B5 B6 B7 B8 B9 Ba, LeO (round_machine_message.j0 k y0 y1 y2 y3 y4 y5 y6 y7 y8 y9 B0 B1 B2 B3 B4 B5 B6 B7 B8 B9 Ba) (round_machine_message.j0 (k + 1) y0 y1 y2 y3 y4 y5 y6 y7 y8 y9 B0 B1 B2 B3 B4 B5 B6 B7 B8 B9 Ba))
 | 0 => fun _ _ _ _ _ _ _ _ _ _ _ _ _ _ _ _ _ _ _ _ _ r h => by simp [round_machine_message.j0] at h
 | k + 1 => by
  have Bb := round_machine_message.mono_l k
  ·intro y0 y1 y2 y3 y4 y5 y6 y7 y8 y9 B0 B1 B2 B3 B4 B5 B6 B7 B8 B9 Ba
   unfold round_machine_message.j0
   repeat' first
   | (with_reducible exact Bb _ _ _ _ _ _ _ _ _ _ _ _ _ _ _ _ _ _ _ _ _)
   | (with_reducible exact round_machine_lies.mono _ _ _ _ _ _ _ _ _ _ _ _ _ _)
   | (with_reducible exact LeO.refl _)
   | (with_reducible exact LeO.none _)
   | (with_reducible refine LeO.ite ?_ ?_)
   | (with_reducible refine LeO.bind ?_ (fun _ => ?_))
   | exact Bb _ _ _ _ _ _ _ _ _ _ _ _ _ _ _ _ _ _ _ _ _
   | exact round_machine_lies.mono _ _ _ _ _ _ _ _ _ _ _ _ _ _
   | exact LeO.none _
   | refine LeO.ite ?_ ?_
   | refine LeO.bind ?_ (fun _ => ?_)
theorem round_machine_message.mono : ∀ a0 a1 a2 a3 a4 a5 a6 a7 a8 a9 B0 B1 B2 B3 B4 B5 B6 B7 B8 B9 Ba k, LeO (round_machine_message.f k a0 a1 a2 a3 a4 a5 a6 a7 a8 a9 B0 B1 B2 B3 B4 B5 B6 B7 B8 B9 Ba) (round_machine_message.f (k + 1) a0 a1 a2 a3 a4 a5 a6 a7 a8 a9 B0 B1 B2 B3 B4 B5 B6 B7 B8 B9 Ba) := by
 intro a0 a1 a2 a3 a4 a5 a6 a7 a8 a9 B0 B1 B2 B3 B4 B5 B6 B7 B8 B9 Ba k
 have Bb := round_machine_message.mono_l k
 unfold round_machine_message.f
 repeat' first
   | (with_reducible exact Bb _ _ _ _ _ _ _ _ _ _ _ _ _ _ _ _ _ _ _ _ _)
   | (with_reducible exact round_machine_lies.mono _ _ _ _ _ _ _ _ _ _ _ _ _ _)
   | (with_reducible exact LeO.refl _)
   | (with_reducible exact LeO.none _)
   | (with_reducible refine LeO.ite ?_ ?_)
   | (with_reducible refine LeO.bind ?_ (fun _ => ?_))
   | exact Bb _ _ _ _ _ _ _ _ _ _ _ _ _ _ _ _ _ _ _ _ _
   | exact round_machine_lies.mono _ _ _ _ _ _ _ _ _ _ _ _ _ _
   | exact LeO.none _
   | refine LeO.ite ?_ ?_
   | refine LeO.bind ?_ (fun _ => ?_)
def round_machine_message.T4 : Bool × List (List Nat × List Nat) := (true, [([], []), ([0], [0]), ([], []), ([2], [2]), ([3], [3]), ([], []), ([5], [5]), ([4, 6], [4, 6]), ([7], [7]), ([1, 8], [1, 8]), ([9], [9])])
def round_machine_message.B4 : List Nat := [0, 1, 0, 4, 12, 0, 32, 124, 252, 511, 1023]
theorem round_machine_message.tab4 : rtab .any (opsOf Try.f51 4) = round_machine_message.T4 := by kernel_rfl
theorem round_machine_message.bits4 : waitsOk round_machine_message.T4.2 round_machine_message.B4 = true := by kernel_rfl
def round_machine_message.T9 : Bool × List (List Nat × List Nat) := (true, [([], []), ([], []), ([1], [1]), ([0, 2], [0, 2]), ([3], [3]), ([4, 3], [4]), ([5], [5]), ([6, 5], [5, 6]), ([5], [5]), ([8, 5], [5, 8]), ([5], [5]), ([10, 5], [5, 10]), ([9, 11, 5], [5, 9, 11]), ([12, 5], [5, 12]), ([7, 13, 5], [5, 7, 13]), ([5, 14], [5, 14]), ([15, 5], [15])])
def round_machine_message.B9 : List Nat := [0, 0, 2, 7, 15, 31, 63, 127, 63, 319, 63, 1087, 3903, 7999, 16383, 32767, 65535]
theorem round_machine_message.tab9 : rtab .any (opsOf Try.f51 9) = round_machine_message.T9 := by kernel_rfl
theorem round_machine_message.bits9 : waitsOk round_machine_message.T9.2 round_machine_message.B9 = true := by kernel_rfl
set_option maxHeartbeats 8000000 in
set_option maxRecDepth 100000 in
theorem round_machine_message.calls (k : Nat) (Bs Bt Bu Bv Bw Bx By Bz D0 D1 : Int) (Dl : Option Addr) (Bo : Nat) (B5 : List Int) (Bp : Option Addr) (Bq : Nat) (Bb : List Int) (Br : Int) (D9 : ByteArray) (Df : Option Addr) (Db : Nat) (Bd : List ByteArray) (Dc : Option Addr) (Dd : Nat) (D5 : List (List (S45))) (B8 B6 Bi : Int) (Bc : ByteArray) (a3 r : Int) (w : World) (Dm : Kd.C (Kd.int .i64) w Dl B5.length B5) (Dn : B5.length ≤ Bo) (Do : Kd.C (Kd.int .i64) w Bp Bb.length Bb) (Dp : Bb.length ≤ Bq) (E0 : Kd.C Kd.string w Df Bd.length Bd) (E1 : Bd.length ≤ Db) (E2 : Kd.C (Kd.slice 45 k45) w Dc D5.length D5) (E3 : D5.length ≤ Dd) (h : round_machine_message.f k Bs Bt Bu Bv Bw Bx By Bz D0 D1 B5 Bb Br D9 Bd D5 B8 B6 Bi Bc a3 = some r) :
  Calls Try.prog 51 #[.agg #[.int .i64 Bs, .int .i64 Bt, .int .i64 Bu, .int .i64 Bv, .int .i64 Bw, .int .i64 Bx, .int .i64 By, .int .i64 Bz, .int .i64 D0, .int .i64 D1, .slice Dl B5.length Bo, .slice Bp Bb.length Bq], .agg #[.int .i64 Br, .string D9, .slice Df Bd.length Db, .slice Dc D5.length Dd], .agg #[.int .i64 B8, .int .i64 B6, .int .i64 Bi, .string Bc], .int .i64 a3] w fun e w' => e = .returned (.int .i64 r) ∧ Below w.heap.size w w' := by
 have Jb := Try.underlying32
 have Jc := Try.underlying45
 have D6 := am_ Dm
 have Dg := am_ Dn
 clear Dm Dn
 have Dh := am_ Do
 have Di := am_ Dp
 clear Do Dp
 have E4 := am_ E0
 have Gc := am_ E1
 clear E0 E1
 have Gd := am_ E2
 have Ge := am_ E3
 clear E2 E3
 have HB := am_ (Below.refl w.heap.size w)
 have H := h
 unfold round_machine_message.f at H
 clear h
 have G8 := am_ H
 clear H
 go_enter Try.func51, Try.ntmps51
 go_upto_if 9 with (first | ((with_reducible refine gate_load (t := 47) (x := .tmp 4) rfl ?_); refine lrg_ 47 (.tmp 4) B1 47 (by exact B0.out) Try.underlying47 ?_) | ((with_reducible refine gate_dst (N := 4) rfl ?_); refine bxe_ 4 47 #[.int .i64 Bs, .int .i64 Bt, .int .i64 Bu, .int .i64 Bv, .int .i64 Bw, .int .i64 Bx, .int .i64 By, .int .i64 Bz, .int .i64 D0, .int .i64 D1, .slice Dl B5.length Bo, .slice Bp Bb.length Bq] ?_; intro B1 hg w6 hbox hb; have B0 := am_ (hbox); have Eb := gwk_ HB hg; have D2 := Eb; replace HB := bst_ HB hb; clear hb hbox hg) | ((with_reducible refine gate_dst (N := 5) rfl ?_); refine bxe_ 5 32 #[.int .i64 Br, .string D9, .slice Df Bd.length Db, .slice Dc D5.length Dd] ?_; intro B9 hg w7 hbox hb; have B3 := am_ (hbox); have Ec := gwk_ HB hg; have D3 := Ec; replace HB := bst_ HB hb; have Bj := nbk_ B0 hg; have Bn := nbs_ Bj; replace B0 := bkb_ B0 hb; clear hb hbox hg) | ((with_reducible refine gate_dst (N := 6) rfl ?_); refine bxe_ 6 45 #[.int .i64 B8, .int .i64 B6, .int .i64 Bi, .string Bc] ?_; intro B4 hg w8 hbox hb; have B2 := am_ (hbox); have Ed := gwk_ HB hg; have D4 := Ed; replace HB := bst_ HB hb; have Bf := nbk_ B0 hg; have Bk := nbs_ Bf; replace B0 := bkb_ B0 hb; have Bg := nbk_ B3 hg; have Bl := nbs_ Bg; replace B3 := bkb_ B3 hb; clear hb hbox hg; have Jd := Bk.out; have Je := Bf.out; have Gf := Bl.out; have Gg := Bg.out; have Ee := cells_4 B2.out; have Ef := frozen_4 B2.out))
 (try simp only [Act.put, zs_])
 go_cut [9] (fun v9 wc => ∃ (kq : Nat) (Dr : Bool), v9 = .bool Dr ∧ Aside0 (round_machine_message.j0 kq Dr Bs Bt Bu Bv Bw Bx By Bz D0 D1 B5 Bb Br D9 Bd D5 B8 B6 Bi Bc = some r) ∧ Aside0 (kq ≤ k) ∧ Aside0 (wc.heap[B1]? = some (.cells #[.int .i64 Bs, .int .i64 Bt, .int .i64 Bu, .int .i64 Bv, .int .i64 Bw, .int .i64 Bx, .int .i64 By, .int .i64 Bz, .int .i64 D0, .int .i64 D1, (.slice Dl B5.length Bo), (.slice Bp Bb.length Bq)] 47 (0, 0))) ∧ Aside0 (wc.heap[B9]? = some (.cells #[.int .i64 Br, .string D9, (.slice Df Bd.length Db), (.slice Dc D5.length Dd)] 32 (0, 0))) ∧ Aside0 (wc.heap[B4]? = some (.cells #[.int .i64 B8, .int .i64 B6, .int .i64 Bi, .string Bc] 45 (0, 0))) ∧ Aside0 (Below w.heap.size w wc))
 case first =>
  have H := G8.out
  clear G8
  by_cases E5 : B6 ≤ a3
  ·rw [if_pos E5] at H
   have Da : decide (B6 ≤ a3) = true := decide_eq_true E5
   clear E5
   (first | rw [Da] | (simp only [i64_w, i32_w]; rw [Da]) | skip)
   have H' := am_ H
   clear H
   go_wp2
   go_meet
   case rel => exact ⟨_, (decide (B6 ≤ a3)), (by first | rfl | (simp; done) | (simp [*]; done)), H', ⟨by first | omega | exact Nat.le_refl _⟩, ⟨by (with_reducible repeat (first | apply kn_ | apply kd_ | apply ka_)); exact B0.out⟩, ⟨by (with_reducible repeat (first | apply kn_ | apply kd_ | apply ka_)); exact B3.out⟩, ⟨by (with_reducible repeat (first | apply kn_ | apply kd_ | apply ka_)); exact B2.out⟩, ⟨by repeat (first | (with_reducible first | exact HB.out | apply ba_ | apply bn_ | apply bd_ | refine bs_ ?_ D2.out | refine bs_ ?_ D3.out | refine bs_ ?_ D4.out) | exact HB.out)⟩⟩
  ·rw [if_neg E5] at H
   have Da : decide (B6 ≤ a3) = false := decide_eq_false E5
   clear E5
   (first | rw [Da] | (simp only [i64_w, i32_w]; rw [Da]) | skip)
   have H' := am_ H
   clear H
   have Gh := Bk.out
   have Gi := Bf.out
   have Gj := Bl.out
   have Gk := Bg.out
   have Ds : w8.cell? ⟨B4, 0, none⟩ = some (.int .i64 B8) := (blk_cell B2.out 0).trans rfl
   have Dt : w8.cell? ⟨B4, 1, none⟩ = some (.int .i64 B6) := (blk_cell B2.out 1).trans rfl
   have Du : w8.cell? ⟨B4, 2, none⟩ = some (.int .i64 Bi) := (blk_cell B2.out 2).trans rfl
   have Dv : w8.cell? ⟨B4, 3, none⟩ = some (.string Bc) := (blk_cell B2.out 3).trans rfl
   have Dw := blk_frozen B2.out 0
   have Dx := blk_frozen B2.out 1
   have Dy := blk_frozen B2.out 2
   have Dz := blk_frozen B2.out 3
   have Gl := Bj.out
   have Gm := Bn.out
   have Eg := cells_12 B0.out
   have Eh := frozen_12 B0.out
   go_wp2
   go_meet
   case rel => exact ⟨_, (decide (B6 ≥ (B5.length : Int))), (by first | rfl | (simp; done) | (simp [*]; done)), H', ⟨by first | omega | exact Nat.le_refl _⟩, ⟨by (with_reducible repeat (first | apply kn_ | apply kd_ | apply ka_)); exact B0.out⟩, ⟨by (with_reducible repeat (first | apply kn_ | apply kd_ | apply ka_)); exact B3.out⟩, ⟨by (with_reducible repeat (first | apply kn_ | apply kd_ | apply ka_)); exact B2.out⟩, ⟨by repeat (first | (with_reducible first | exact HB.out | apply ba_ | apply bn_ | apply bd_ | refine bs_ ?_ D2.out | refine bs_ ?_ D3.out | refine bs_ ?_ D4.out) | exact HB.out)⟩⟩
 case rest =>
  clear G8
  try clear c1
  try clear p2
  try clear c5
  try clear c9
  try clear c10
  try clear E5
  try clear Da
  try clear c13
  try clear c14
  try clear c16
  try clear Ee
  try clear Ds Dt Du Dv
  try clear Eg
  try clear Ef
  try clear Dw Dx Dy Dz
  try clear Eh
  obtain ⟨kq, Dr, rfl, HA, Jf, B0, B3, B2, HB⟩ := hcut
  cases kq with
  | zero => exact absurd HA.out (by simp [round_machine_message.j0])
  | succ G9 =>
   have H := HA.out
   clear HA
   simp only [round_machine_message.j0] at H
   by_cases Eq : Dr = true
   ·subst Eq
    rw [if_pos rfl] at H
    obtain rfl := Option.some.inj H
    go_wp2
    go_ret
    exact ⟨by first | rfl | (simp [*] <;> rfl), by repeat (first | (with_reducible first | exact HB.out | apply ba_ | apply bn_ | apply bd_ | refine bs_ ?_ D2.out | refine bs_ ?_ D3.out | refine bs_ ?_ D4.out) | exact HB.out)⟩
   ·replace Eq := Bool.eq_false_iff.mpr Eq
    subst Eq
    rw [if_neg (show ¬ (false = true) by decide)] at H
    by_cases Er : 0 ≤ B6
    ·rw [if_pos Er] at H
     have Gp : decide (0 ≤ B6) = true := decide_eq_true Er
     clear Er
     by_cases Es : B6 < (B5.length : Int)
     ·rw [if_pos Es] at H
      have Gq : decide (B6 < (B5.length : Int)) = true := decide_eq_true Es
      clear Es
      by_cases E6 : B8 = (rd B5 B6)
      rw [if_pos E6] at H
      have Ei : (B8 == (rd B5 B6)) = true := beq_iff_eq.mpr E6
      have Ej : (B8 != (rd B5 B6)) = false := bne_eq_false_iff_eq.mpr E6
      clear E6
      by_cases E7 : Bi = Br
      rw [if_pos E7] at H
      have Ek : (Bi == Br) = true := beq_iff_eq.mpr E7
      have El : (Bi != Br) = false := bne_eq_false_iff_eq.mpr E7
      clear E7
      by_cases Ea : (Bc.size : Int) > 16
      ·rw [if_pos Ea] at H
       have Em : decide (16 < (Bc.size : Int)) = true := decide_eq_true Ea
       have En : decide (16 < Bc.size) = true := decide_eq_true (by omega)
       clear Ea
       obtain rfl := Option.some.inj H
       try go_wp2
       replace B0 := am_ (blk_drew B0.out)
       replace B3 := am_ (blk_drew B3.out)
       replace B2 := am_ (blk_drew B2.out)
       replace HB := am_ (below_drew1 HB.out)
       have D7 : 0 ≤ (B6 : Int) := of_decide_eq_true (by first | (with_reducible assumption) | assumption)
       have D8 : B6 < (B5.length : Int) := of_decide_eq_true (by first | (with_reducible assumption) | assumption)
       obtain ⟨Bm, Dq, B7⟩ := Kd.at_int D6.out B6 D7 D8
       have Bh := B7
       cases Dq
       replace B7 := (HB.out.cell (World.block_lt_of_cell? w _ B7)).trans B7
       replace D7 := eq_true D7
       replace D8 := eq_true D8
       refine start_ (n := 11) (S := fun w' => ce_ w' B4 0 (.int .i64 B8) ∧ ce_ w' B4 1 (.int .i64 B6) ∧ ce_ w' B4 2 (.int .i64 Bi) ∧ ce_ w' B4 3 (.string Bc) ∧ ce_ w' B1 0 (.int .i64 Bs) ∧ ce_ w' B1 1 (.int .i64 Bt) ∧ ce_ w' B1 2 (.int .i64 Bu) ∧ ce_ w' B1 3 (.int .i64 Bv) ∧ ce_ w' B1 4 (.int .i64 Bw) ∧ ce_ w' B1 5 (.int .i64 Bx) ∧ ce_ w' B1 6 (.int .i64 By) ∧ ce_ w' B1 7 (.int .i64 Bz) ∧ ce_ w' B1 8 (.int .i64 D0) ∧ ce_ w' B1 9 (.int .i64 D1) ∧ ce_ w' B1 10 (.slice (some Bm) B5.length Bo) ∧ ce_ w' B1 11 (.slice Bp Bb.length Bq) ∧ w'.cell? (Bm.add (B6).toNat) = some (.int .i64 (rd B5 B6))) (ds := []) #[false, false, false, false, false, false, false, false, false, false, false] (by kernel_rfl) rfl rfl ⟨(blk_cell B2.out 0).trans rfl, (blk_cell B2.out 1).trans rfl, (blk_cell B2.out 2).trans rfl, (blk_cell B2.out 3).trans rfl, (blk_cell B0.out 0).trans rfl, (blk_cell B0.out 1).trans rfl, (blk_cell B0.out 2).trans rfl, (blk_cell B0.out 3).trans rfl, (blk_cell B0.out 4).trans rfl, (blk_cell B0.out 5).trans rfl, (blk_cell B0.out 6).trans rfl, (blk_cell B0.out 7).trans rfl, (blk_cell B0.out 8).trans rfl, (blk_cell B0.out 9).trans rfl, (blk_cell B0.out 10).trans rfl, (blk_cell B0.out 11).trans rfl, ((HB.out.cell (World.block_lt_of_cell? w _ Bh)).trans Bh)⟩ (fun hHeld => ?_); refine with_tabW round_machine_message.tab4 round_machine_message.bits4 (fun HT_ HW_ => ?_)
       generalize wc.drew = w24 at B0 B3 B2 HB B7 hHeld ⊢
       refine pur_ 0 (some 22) rfl rfl (any_of HT_.out (by kernel_rfl)) ?_
       refine pur_ 2 (some 24) rfl rfl (any_of HT_.out (by kernel_rfl)) ?_
       refine pur_ 3 (some 25) rfl rfl (any_of HT_.out (by kernel_rfl)) ?_
       refine pur_ 5 (some 27) rfl rfl (any_of HT_.out (by kernel_rfl)) ?_
       refine tak_ 1 (some 23) rfl rfl (take_ofW HT_.out HW_.out (by kernel_rfl)) hHeld ?_ (by rintro w' ⟨s0, s1, s2, s3, s4, s5, s6, s7, s8, s9, s10, s11, s12, s13, s14, s15, s16⟩; (first | (refine load_cells_12 (ty := 47) (x := .tmp 4) (g := B1) ?hlo_ ?hx_ Try.underlying47 ?hd_ ?hi_ s4 s5 s6 s7 s8 s9 s10 s11 s12 s13 s14 s15; (case hlo_ => rfl); (case hx_ => rfl); (case hd_ => rfl); (case hi_ => kernel_rfl)) | (go_simp; with_reducible rfl)))
       refine tak_ 4 (some 26) rfl rfl (take_ofW HT_.out HW_.out (by kernel_rfl)) hHeld ?_ (by rintro w' ⟨s0, s1, s2, s3, s4, s5, s6, s7, s8, s9, s10, s11, s12, s13, s14, s15, s16⟩; (first | (refine load_cells_12 (ty := 47) (x := .tmp 4) (g := B1) ?hlo_ ?hx_ Try.underlying47 ?hd_ ?hi_ s4 s5 s6 s7 s8 s9 s10 s11 s12 s13 s14 s15; (case hlo_ => rfl); (case hx_ => rfl); (case hd_ => rfl); (case hi_ => kernel_rfl)) | (go_simp; with_reducible rfl)))
       refine tak_ 6 (some 28) rfl rfl (take_ofW HT_.out HW_.out (by kernel_rfl)) hHeld ?_ (by rintro w' ⟨s0, s1, s2, s3, s4, s5, s6, s7, s8, s9, s10, s11, s12, s13, s14, s15, s16⟩; (first | (refine load_cells_12 (ty := 47) (x := .tmp 4) (g := B1) ?hlo_ ?hx_ Try.underlying47 ?hd_ ?hi_ s4 s5 s6 s7 s8 s9 s10 s11 s12 s13 s14 s15; (case hlo_ => rfl); (case hx_ => rfl); (case hd_ => rfl); (case hi_ => kernel_rfl)) | (go_simp; with_reducible rfl)))
       refine pur_ 7 (some 29) rfl rfl (any_of HT_.out (by kernel_rfl)) ?_
       refine tak_ 8 (some 30) rfl rfl (take_ofW HT_.out HW_.out (by kernel_rfl)) hHeld ?_ (by rintro w' ⟨s0, s1, s2, s3, s4, s5, s6, s7, s8, s9, s10, s11, s12, s13, s14, s15, s16⟩; (first | (refine load_cells_12 (ty := 47) (x := .tmp 4) (g := B1) ?hlo_ ?hx_ Try.underlying47 ?hd_ ?hi_ s4 s5 s6 s7 s8 s9 s10 s11 s12 s13 s14 s15; (case hlo_ => rfl); (case hx_ => rfl); (case hd_ => rfl); (case hi_ => kernel_rfl)) | (go_simp; with_reducible rfl)))
       refine pur_ 9 (some 31) rfl rfl (any_of HT_.out (by kernel_rfl)) ?_
       refine pur_ 10 (some 21) rfl rfl (any_of HT_.out (by kernel_rfl)) ?_
       refine done_ (done_of HT_.out (by kernel_rfl)) ?_
       have Gr := Bk.out
       have Gs := Bf.out
       have Gt := Bl.out
       have Gu := Bg.out
       have Et : w24.cell? ⟨B4, 0, none⟩ = some (.int .i64 B8) := (blk_cell B2.out 0).trans rfl
       have Eu : w24.cell? ⟨B4, 1, none⟩ = some (.int .i64 B6) := (blk_cell B2.out 1).trans rfl
       have Ev : w24.cell? ⟨B4, 2, none⟩ = some (.int .i64 Bi) := (blk_cell B2.out 2).trans rfl
       have Ew : w24.cell? ⟨B4, 3, none⟩ = some (.string Bc) := (blk_cell B2.out 3).trans rfl
       have Ex := blk_frozen B2.out 0
       have Ey := blk_frozen B2.out 1
       have Ez := blk_frozen B2.out 2
       have F0 := blk_frozen B2.out 3
       have Gv := Bn.out
       have Gw := Bj.out
       have F1 : w24.cell? ⟨B9, 0, none⟩ = some (.int .i64 Br) := (blk_cell B3.out 0).trans rfl
       have F2 : w24.cell? ⟨B9, 1, none⟩ = some (.string D9) := (blk_cell B3.out 1).trans rfl
       have F3 : w24.cell? ⟨B9, 2, none⟩ = some (.slice Df Bd.length Db) := (blk_cell B3.out 2).trans rfl
       have F4 : w24.cell? ⟨B9, 3, none⟩ = some (.slice Dc D5.length Dd) := (blk_cell B3.out 3).trans rfl
       have F5 := blk_frozen B3.out 0
       have F6 := blk_frozen B3.out 1
       have F7 := blk_frozen B3.out 2
       have F8 := blk_frozen B3.out 3
       try go_wp2
       go_ret
       exact ⟨by first | rfl | (simp [*] <;> rfl), by repeat (first | (with_reducible first | exact HB.out | apply ba_ | apply bn_ | apply bd_ | refine bs_ ?_ D2.out | refine bs_ ?_ D3.out | refine bs_ ?_ D4.out) | exact HB.out)⟩
      rw [if_neg Ea] at H
      have Em : decide (16 < (Bc.size : Int)) = false := decide_eq_false Ea
      have En : decide (16 < Bc.size) = false := decide_eq_false (by omega)
      clear Ea
      obtain ⟨Ga, Gb, H⟩ := bes_ H
      try dsimp only at H
      by_cases F9 : Ga = true
      subst F9
      rw [if_pos rfl] at H
      obtain rfl := Option.some.inj H
      rotate_left
      replace F9 := Bool.eq_false_iff.mpr F9
      subst F9
      rw [if_neg (show ¬ (false = true) by decide)] at H
      by_cases Fa : 0 ≤ B8
      rw [if_pos Fa] at H
      have Gx : decide (0 ≤ B8) = true := decide_eq_true Fa
      clear Fa
      by_cases Fb : B8 < (Bd.length : Int)
      rw [if_pos Fb] at H
      have Gy : decide (B8 < (Bd.length : Int)) = true := decide_eq_true Fb
      clear Fb
      by_cases E8 : Bc.toList = (rdOf ByteArray.empty Bd B8).toList
      ·rw [if_pos E8] at H
       have Eo : (Bc.toList == (rdOf ByteArray.empty Bd B8).toList) = true := beq_iff_eq.mpr E8
       have Ep : (Bc.toList != (rdOf ByteArray.empty Bd B8).toList) = false := bne_eq_false_iff_eq.mpr E8
       clear E8
       obtain rfl := Option.some.inj H
       try go_wp2
       replace B0 := am_ (blk_drew B0.out)
       replace B3 := am_ (blk_drew B3.out)
       replace B2 := am_ (blk_drew B2.out)
       replace HB := am_ (below_drew1 HB.out)
       have D7 : 0 ≤ (B6 : Int) := of_decide_eq_true (by first | (with_reducible assumption) | assumption)
       have D8 : B6 < (B5.length : Int) := of_decide_eq_true (by first | (with_reducible assumption) | assumption)
       obtain ⟨Bm, Dq, B7⟩ := Kd.at_int D6.out B6 D7 D8
       have Bh := B7
       cases Dq
       replace B7 := (HB.out.cell (World.block_lt_of_cell? w _ B7)).trans B7
       replace D7 := eq_true D7
       replace D8 := eq_true D8
       refine start_ (n := 11) (S := fun w' => ce_ w' B4 0 (.int .i64 B8) ∧ ce_ w' B4 1 (.int .i64 B6) ∧ ce_ w' B4 2 (.int .i64 Bi) ∧ ce_ w' B4 3 (.string Bc) ∧ ce_ w' B1 0 (.int .i64 Bs) ∧ ce_ w' B1 1 (.int .i64 Bt) ∧ ce_ w' B1 2 (.int .i64 Bu) ∧ ce_ w' B1 3 (.int .i64 Bv) ∧ ce_ w' B1 4 (.int .i64 Bw) ∧ ce_ w' B1 5 (.int .i64 Bx) ∧ ce_ w' B1 6 (.int .i64 By) ∧ ce_ w' B1 7 (.int .i64 Bz) ∧ ce_ w' B1 8 (.int .i64 D0) ∧ ce_ w' B1 9 (.int .i64 D1) ∧ ce_ w' B1 10 (.slice (some Bm) B5.length Bo) ∧ ce_ w' B1 11 (.slice Bp Bb.length Bq) ∧ w'.cell? (Bm.add (B6).toNat) = some (.int .i64 (rd B5 B6))) (ds := []) #[false, false, false, false, false, false, false, false, false, false, false] (by kernel_rfl) rfl rfl ⟨(blk_cell B2.out 0).trans rfl, (blk_cell B2.out 1).trans rfl, (blk_cell B2.out 2).trans rfl, (blk_cell B2.out 3).trans rfl, (blk_cell B0.out 0).trans rfl, (blk_cell B0.out 1).trans rfl, (blk_cell B0.out 2).trans rfl, (blk_cell B0.out 3).trans rfl, (blk_cell B0.out 4).trans rfl, (blk_cell B0.out 5).trans rfl, (blk_cell B0.out 6).trans rfl, (blk_cell B0.out 7).trans rfl, (blk_cell B0.out 8).trans rfl, (blk_cell B0.out 9).trans rfl, (blk_cell B0.out 10).trans rfl, (blk_cell B0.out 11).trans rfl, ((HB.out.cell (World.block_lt_of_cell? w _ Bh)).trans Bh)⟩ (fun hHeld => ?_); refine with_tabW round_machine_message.tab4 round_machine_message.bits4 (fun HT_ HW_ => ?_)
       generalize wc.drew = w43 at B0 B3 B2 HB B7 hHeld ⊢
       refine pur_ 0 (some 22) rfl rfl (any_of HT_.out (by kernel_rfl)) ?_
       refine pur_ 2 (some 24) rfl rfl (any_of HT_.out (by kernel_rfl)) ?_
       refine pur_ 3 (some 25) rfl rfl (any_of HT_.out (by kernel_rfl)) ?_
       refine pur_ 5 (some 27) rfl rfl (any_of HT_.out (by kernel_rfl)) ?_
       refine tak_ 1 (some 23) rfl rfl (take_ofW HT_.out HW_.out (by kernel_rfl)) hHeld ?_ (by rintro w' ⟨s0, s1, s2, s3, s4, s5, s6, s7, s8, s9, s10, s11, s12, s13, s14, s15, s16⟩; (first | (refine load_cells_12 (ty := 47) (x := .tmp 4) (g := B1) ?hlo_ ?hx_ Try.underlying47 ?hd_ ?hi_ s4 s5 s6 s7 s8 s9 s10 s11 s12 s13 s14 s15; (case hlo_ => rfl); (case hx_ => rfl); (case hd_ => rfl); (case hi_ => kernel_rfl)) | (go_simp; with_reducible rfl)))
       refine tak_ 4 (some 26) rfl rfl (take_ofW HT_.out HW_.out (by kernel_rfl)) hHeld ?_ (by rintro w' ⟨s0, s1, s2, s3, s4, s5, s6, s7, s8, s9, s10, s11, s12, s13, s14, s15, s16⟩; (first | (refine load_cells_12 (ty := 47) (x := .tmp 4) (g := B1) ?hlo_ ?hx_ Try.underlying47 ?hd_ ?hi_ s4 s5 s6 s7 s8 s9 s10 s11 s12 s13 s14 s15; (case hlo_ => rfl); (case hx_ => rfl); (case hd_ => rfl); (case hi_ => kernel_rfl)) | (go_simp; with_reducible rfl)))
       refine tak_ 6 (some 28) rfl rfl (take_ofW HT_.out HW_.out (by kernel_rfl)) hHeld ?_ (by rintro w' ⟨s0, s1, s2, s3, s4, s5, s6, s7, s8, s9, s10, s11, s12, s13, s14, s15, s16⟩; (first | (refine load_cells_12 (ty := 47) (x := .tmp 4) (g := B1) ?hlo_ ?hx_ Try.underlying47 ?hd_ ?hi_ s4 s5 s6 s7 s8 s9 s10 s11 s12 s13 s14 s15; (case hlo_ => rfl); (case hx_ => rfl); (case hd_ => rfl); (case hi_ => kernel_rfl)) | (go_simp; with_reducible rfl)))
       refine pur_ 7 (some 29) rfl rfl (any_of HT_.out (by kernel_rfl)) ?_
       refine tak_ 8 (some 30) rfl rfl (take_ofW HT_.out HW_.out (by kernel_rfl)) hHeld ?_ (by rintro w' ⟨s0, s1, s2, s3, s4, s5, s6, s7, s8, s9, s10, s11, s12, s13, s14, s15, s16⟩; (first | (refine load_cells_12 (ty := 47) (x := .tmp 4) (g := B1) ?hlo_ ?hx_ Try.underlying47 ?hd_ ?hi_ s4 s5 s6 s7 s8 s9 s10 s11 s12 s13 s14 s15; (case hlo_ => rfl); (case hx_ => rfl); (case hd_ => rfl); (case hi_ => kernel_rfl)) | (go_simp; with_reducible rfl)))
       refine pur_ 9 (some 31) rfl rfl (any_of HT_.out (by kernel_rfl)) ?_
       refine pur_ 10 (some 21) rfl rfl (any_of HT_.out (by kernel_rfl)) ?_
       refine done_ (done_of HT_.out (by kernel_rfl)) ?_
       have Gz := Bk.out
       have J0 := Bf.out
       have J1 := Bl.out
       have J2 := Bg.out
       have Fc : w43.cell? ⟨B4, 0, none⟩ = some (.int .i64 B8) := (blk_cell B2.out 0).trans rfl
       have Fd : w43.cell? ⟨B4, 1, none⟩ = some (.int .i64 B6) := (blk_cell B2.out 1).trans rfl
       have Fe : w43.cell? ⟨B4, 2, none⟩ = some (.int .i64 Bi) := (blk_cell B2.out 2).trans rfl
       have Ff : w43.cell? ⟨B4, 3, none⟩ = some (.string Bc) := (blk_cell B2.out 3).trans rfl
       have Fg := blk_frozen B2.out 0
       have Fh := blk_frozen B2.out 1
       have Fi := blk_frozen B2.out 2
       have Fj := blk_frozen B2.out 3
       have J3 := Bn.out
       have J4 := Bj.out
       have Fk : w43.cell? ⟨B9, 0, none⟩ = some (.int .i64 Br) := (blk_cell B3.out 0).trans rfl
       have Fl : w43.cell? ⟨B9, 1, none⟩ = some (.string D9) := (blk_cell B3.out 1).trans rfl
       have Fm : w43.cell? ⟨B9, 2, none⟩ = some (.slice Df Bd.length Db) := (blk_cell B3.out 2).trans rfl
       have Fn : w43.cell? ⟨B9, 3, none⟩ = some (.slice Dc D5.length Dd) := (blk_cell B3.out 3).trans rfl
       have Fo := blk_frozen B3.out 0
       have Fp := blk_frozen B3.out 1
       have Fq := blk_frozen B3.out 2
       have Fr := blk_frozen B3.out 3
       try go_wp2
       replace B0 := am_ (blk_drew B0.out)
       replace B3 := am_ (blk_drew B3.out)
       replace B2 := am_ (blk_drew B2.out)
       replace HB := am_ (below_drew1 HB.out)
       have Dj : 0 ≤ (B8 : Int) := of_decide_eq_true (by first | (with_reducible assumption) | assumption)
       have Dk : B8 < (Bd.length : Int) := of_decide_eq_true (by first | (with_reducible assumption) | assumption)
       obtain ⟨De, E9, Ba⟩ := Kd.at_string E4.out B8 Dj Dk
       have Be := Ba
       cases E9
       replace Ba := (HB.out.cell (World.block_lt_of_cell? w _ Ba)).trans Ba
       replace Dj := eq_true Dj
       replace Dk := eq_true Dk
       refine start_ (n := 17) (S := fun w' => ce_ w' B1 0 (.int .i64 Bs) ∧ ce_ w' B1 1 (.int .i64 Bt) ∧ ce_ w' B1 2 (.int .i64 Bu) ∧ ce_ w' B1 3 (.int .i64 Bv) ∧ ce_ w' B1 4 (.int .i64 Bw) ∧ ce_ w' B1 5 (.int .i64 Bx) ∧ ce_ w' B1 6 (.int .i64 By) ∧ ce_ w' B1 7 (.int .i64 Bz) ∧ ce_ w' B1 8 (.int .i64 D0) ∧ ce_ w' B1 9 (.int .i64 D1) ∧ ce_ w' B1 10 (.slice (some Bm) B5.length Bo) ∧ ce_ w' B1 11 (.slice Bp Bb.length Bq) ∧ ce_ w' B4 0 (.int .i64 B8) ∧ ce_ w' B4 1 (.int .i64 B6) ∧ ce_ w' B4 2 (.int .i64 Bi) ∧ ce_ w' B4 3 (.string Bc) ∧ ce_ w' B9 0 (.int .i64 Br) ∧ ce_ w' B9 1 (.string D9) ∧ ce_ w' B9 2 (.slice (some De) Bd.length Db) ∧ ce_ w' B9 3 (.slice Dc D5.length Dd) ∧ w'.cell? (De.add (B8).toNat) = some (.string (rdOf ByteArray.empty Bd B8))) (ds := []) #[false, false, false, false, false, false, false, false, false, false, false, false, false, false, false, false, false] (by kernel_rfl) rfl rfl ⟨(blk_cell B0.out 0).trans rfl, (blk_cell B0.out 1).trans rfl, (blk_cell B0.out 2).trans rfl, (blk_cell B0.out 3).trans rfl, (blk_cell B0.out 4).trans rfl, (blk_cell B0.out 5).trans rfl, (blk_cell B0.out 6).trans rfl, (blk_cell B0.out 7).trans rfl, (blk_cell B0.out 8).trans rfl, (blk_cell B0.out 9).trans rfl, (blk_cell B0.out 10).trans rfl, (blk_cell B0.out 11).trans rfl, (blk_cell B2.out 0).trans rfl, (blk_cell B2.out 1).trans rfl, (blk_cell B2.out 2).trans rfl, (blk_cell B2.out 3).trans rfl, (blk_cell B3.out 0).trans rfl, (blk_cell B3.out 1).trans rfl, (blk_cell B3.out 2).trans rfl, (blk_cell B3.out 3).trans rfl, ((HB.out.cell (World.block_lt_of_cell? w _ Be)).trans Be)⟩ (fun hHeld => ?_); refine with_tabW round_machine_message.tab9 round_machine_message.bits9 (fun HT_ HW_ => ?_)
       generalize w43.drew = w49 at B0 B3 B2 HB Ba hHeld ⊢
       refine pur_ 1 (some 44) rfl rfl (any_of HT_.out (by kernel_rfl)) ?_
       refine tak_ 0 (some 43) rfl rfl (take_ofW HT_.out HW_.out (by kernel_rfl)) hHeld ?_ (by rintro w' ⟨s0, s1, s2, s3, s4, s5, s6, s7, s8, s9, s10, s11, s12, s13, s14, s15, s16, s17, s18, s19, s20⟩; (first | (refine load_cells_12 (ty := 47) (x := .tmp 4) (g := B1) ?hlo_ ?hx_ Try.underlying47 ?hd_ ?hi_ s0 s1 s2 s3 s4 s5 s6 s7 s8 s9 s10 s11; (case hlo_ => rfl); (case hx_ => rfl); (case hd_ => rfl); (case hi_ => kernel_rfl)) | (go_simp; with_reducible rfl)))
       refine tak_ 2 (some 45) rfl rfl (take_ofW HT_.out HW_.out (by kernel_rfl)) hHeld ?_ (by rintro w' ⟨s0, s1, s2, s3, s4, s5, s6, s7, s8, s9, s10, s11, s12, s13, s14, s15, s16, s17, s18, s19, s20⟩; (first | (refine load_cells_12 (ty := 47) (x := .tmp 4) (g := B1) ?hlo_ ?hx_ Try.underlying47 ?hd_ ?hi_ s0 s1 s2 s3 s4 s5 s6 s7 s8 s9 s10 s11; (case hlo_ => rfl); (case hx_ => rfl); (case hd_ => rfl); (case hi_ => kernel_rfl)) | (go_simp; with_reducible rfl)))
       refine oon_ 3 (some 46) rfl rfl (one_of HT_.out (by kernel_rfl)) (fun K hK => ?_)
       refine gos_ Try.func25 (round_machine_lies.calls G9 Bs Bt Bu Bv Bw Bx By Bz D0 D1 _ _ B5 _ _ Bb B8 _ _ (Kd.C_below D6.out HB.out) Dg.out (Kd.C_below Dh.out HB.out) Di.out Gb.out) ?_
       rintro e w50 ⟨rfl, hb⟩
       refine ⟨_, rfl, ?_⟩
       replace B0 := bkb_ B0 hb
       replace B3 := bkb_ B3 hb
       replace B2 := bkb_ B2 hb
       replace HB := bst_ HB hb
       (try clear hb)
       (try clear hb2)
       (try clear hk)
       (try clear hi)
       refine hK.out _ _ (and_12 B0.out ⟨(blk_cell B2.out 0).trans rfl, (blk_cell B2.out 1).trans rfl, (blk_cell B2.out 2).trans rfl, (blk_cell B2.out 3).trans rfl, (blk_cell B3.out 0).trans rfl, (blk_cell B3.out 1).trans rfl, (blk_cell B3.out 2).trans rfl, (blk_cell B3.out 3).trans rfl, ((HB.out.cell (World.block_lt_of_cell? w _ Be)).trans Be)⟩) (fun hHeld => ?_)
       clear hK K
       refine nor_ 46 ?_
       refine pur_ 4 (some 47) rfl rfl (any_of HT_.out (by kernel_rfl)) ?_
       refine pur_ 5 (some 48) rfl rfl (any_of HT_.out (by kernel_rfl)) ?_
       refine pur_ 6 (some 49) rfl rfl (any_of HT_.out (by kernel_rfl)) ?_
       refine pur_ 8 (some 51) rfl rfl (any_of HT_.out (by kernel_rfl)) ?_
       refine pur_ 10 (some 53) rfl rfl (any_of HT_.out (by kernel_rfl)) ?_
       refine tak_ 7 (some 50) rfl rfl (take_ofW HT_.out HW_.out (by kernel_rfl)) hHeld ?_ (by rintro w' ⟨s0, s1, s2, s3, s4, s5, s6, s7, s8, s9, s10, s11, s12, s13, s14, s15, s16, s17, s18, s19, s20⟩; (first | (refine load_cells_12 (ty := 47) (x := .tmp 4) (g := B1) ?hlo_ ?hx_ Try.underlying47 ?hd_ ?hi_ s0 s1 s2 s3 s4 s5 s6 s7 s8 s9 s10 s11; (case hlo_ => rfl); (case hx_ => rfl); (case hd_ => rfl); (case hi_ => kernel_rfl)) | (go_simp; with_reducible rfl)))
       refine tak_ 9 (some 52) rfl rfl (take_ofW HT_.out HW_.out (by kernel_rfl)) hHeld ?_ (by rintro w' ⟨s0, s1, s2, s3, s4, s5, s6, s7, s8, s9, s10, s11, s12, s13, s14, s15, s16, s17, s18, s19, s20⟩; (first | (refine load_cells_12 (ty := 47) (x := .tmp 4) (g := B1) ?hlo_ ?hx_ Try.underlying47 ?hd_ ?hi_ s0 s1 s2 s3 s4 s5 s6 s7 s8 s9 s10 s11; (case hlo_ => rfl); (case hx_ => rfl); (case hd_ => rfl); (case hi_ => kernel_rfl)) | (go_simp; with_reducible rfl)))
       refine tak_ 11 (some 54) rfl rfl (take_ofW HT_.out HW_.out (by kernel_rfl)) hHeld ?_ (by rintro w' ⟨s0, s1, s2, s3, s4, s5, s6, s7, s8, s9, s10, s11, s12, s13, s14, s15, s16, s17, s18, s19, s20⟩; (first | (refine load_cells_12 (ty := 47) (x := .tmp 4) (g := B1) ?hlo_ ?hx_ Try.underlying47 ?hd_ ?hi_ s0 s1 s2 s3 s4 s5 s6 s7 s8 s9 s10 s11; (case hlo_ => rfl); (case hx_ => rfl); (case hd_ => rfl); (case hi_ => kernel_rfl)) | (go_simp; with_reducible rfl)))
       refine pur_ 12 (some 55) rfl rfl (any_of HT_.out (by kernel_rfl)) ?_
       refine tak_ 13 (some 56) rfl rfl (take_ofW HT_.out HW_.out (by kernel_rfl)) hHeld ?_ (by rintro w' ⟨s0, s1, s2, s3, s4, s5, s6, s7, s8, s9, s10, s11, s12, s13, s14, s15, s16, s17, s18, s19, s20⟩; (first | (refine load_cells_12 (ty := 47) (x := .tmp 4) (g := B1) ?hlo_ ?hx_ Try.underlying47 ?hd_ ?hi_ s0 s1 s2 s3 s4 s5 s6 s7 s8 s9 s10 s11; (case hlo_ => rfl); (case hx_ => rfl); (case hd_ => rfl); (case hi_ => kernel_rfl)) | (go_simp; with_reducible rfl)))
       refine pur_ 14 (some 57) rfl rfl (any_of HT_.out (by kernel_rfl)) ?_
       refine pur_ 15 (some 58) rfl rfl (any_of HT_.out (by kernel_rfl)) ?_
       refine pur_ 16 (some 38) rfl rfl (any_of HT_.out (by kernel_rfl)) ?_
       refine done_ (done_of HT_.out (by kernel_rfl)) ?_
       try go_wp2
       go_ret
       exact ⟨by first | rfl | (simp [*] <;> rfl), by repeat (first | (with_reducible first | exact HB.out | apply ba_ | apply bn_ | apply bd_ | refine bs_ ?_ D2.out | refine bs_ ?_ D3.out | refine bs_ ?_ D4.out) | exact HB.out)⟩
      rw [if_neg E8] at H
      have Eo : (Bc.toList == (rdOf ByteArray.empty Bd B8).toList) = false := beq_eq_false_iff_ne.mpr E8
      have Ep : (Bc.toList != (rdOf ByteArray.empty Bd B8).toList) = true := bne_iff_ne.mpr E8
      obtain rfl := Option.some.inj H
      rotate_left
      ·rw [if_neg Fb] at H
       exact absurd H (by simp)
      ·rw [if_neg Fa] at H
       exact absurd H (by simp)
      rw [if_neg E7] at H
      have Ek : (Bi == Br) = false := beq_eq_false_iff_ne.mpr E7
      have El : (Bi != Br) = true := bne_iff_ne.mpr E7
      obtain rfl := Option.some.inj H
      rotate_left
      rw [if_neg E6] at H
      have Ei : (B8 == (rd B5 B6)) = false := beq_eq_false_iff_ne.mpr E6
      have Ej : (B8 != (rd B5 B6)) = true := bne_iff_ne.mpr E6
      obtain rfl := Option.some.inj H
      rotate_left
      all_goals
       try go_wp2
       replace B0 := am_ (blk_drew B0.out)
       replace B3 := am_ (blk_drew B3.out)
       replace B2 := am_ (blk_drew B2.out)
       replace HB := am_ (below_drew1 HB.out)
       have D7 : 0 ≤ (B6 : Int) := of_decide_eq_true (by first | (with_reducible assumption) | assumption)
       have D8 : B6 < (B5.length : Int) := of_decide_eq_true (by first | (with_reducible assumption) | assumption)
       obtain ⟨Bm, Dq, B7⟩ := Kd.at_int D6.out B6 D7 D8
       have Bh := B7
       cases Dq
       replace B7 := (HB.out.cell (World.block_lt_of_cell? w _ B7)).trans B7
       replace D7 := eq_true D7
       replace D8 := eq_true D8
       refine start_ (n := 11) (S := fun w' => ce_ w' B4 0 (.int .i64 B8) ∧ ce_ w' B4 1 (.int .i64 B6) ∧ ce_ w' B4 2 (.int .i64 Bi) ∧ ce_ w' B4 3 (.string Bc) ∧ ce_ w' B1 0 (.int .i64 Bs) ∧ ce_ w' B1 1 (.int .i64 Bt) ∧ ce_ w' B1 2 (.int .i64 Bu) ∧ ce_ w' B1 3 (.int .i64 Bv) ∧ ce_ w' B1 4 (.int .i64 Bw) ∧ ce_ w' B1 5 (.int .i64 Bx) ∧ ce_ w' B1 6 (.int .i64 By) ∧ ce_ w' B1 7 (.int .i64 Bz) ∧ ce_ w' B1 8 (.int .i64 D0) ∧ ce_ w' B1 9 (.int .i64 D1) ∧ ce_ w' B1 10 (.slice (some Bm) B5.length Bo) ∧ ce_ w' B1 11 (.slice Bp Bb.length Bq) ∧ w'.cell? (Bm.add (B6).toNat) = some (.int .i64 (rd B5 B6))) (ds := []) #[false, false, false, false, false, false, false, false, false, false, false] (by kernel_rfl) rfl rfl ⟨(blk_cell B2.out 0).trans rfl, (blk_cell B2.out 1).trans rfl, (blk_cell B2.out 2).trans rfl, (blk_cell B2.out 3).trans rfl, (blk_cell B0.out 0).trans rfl, (blk_cell B0.out 1).trans rfl, (blk_cell B0.out 2).trans rfl, (blk_cell B0.out 3).trans rfl, (blk_cell B0.out 4).trans rfl, (blk_cell B0.out 5).trans rfl, (blk_cell B0.out 6).trans rfl, (blk_cell B0.out 7).trans rfl, (blk_cell B0.out 8).trans rfl, (blk_cell B0.out 9).trans rfl, (blk_cell B0.out 10).trans rfl, (blk_cell B0.out 11).trans rfl, ((HB.out.cell (World.block_lt_of_cell? w _ Bh)).trans Bh)⟩ (fun hHeld => ?_); refine with_tabW round_machine_message.tab4 round_machine_message.bits4 (fun HT_ HW_ => ?_)
       generalize wc.drew = w32 at B0 B3 B2 HB B7 hHeld ⊢
       refine pur_ 0 (some 22) rfl rfl (any_of HT_.out (by kernel_rfl)) ?_
       refine pur_ 2 (some 24) rfl rfl (any_of HT_.out (by kernel_rfl)) ?_
       refine pur_ 3 (some 25) rfl rfl (any_of HT_.out (by kernel_rfl)) ?_
       refine pur_ 5 (some 27) rfl rfl (any_of HT_.out (by kernel_rfl)) ?_
       refine tak_ 1 (some 23) rfl rfl (take_ofW HT_.out HW_.out (by kernel_rfl)) hHeld ?_ (by rintro w' ⟨s0, s1, s2, s3, s4, s5, s6, s7, s8, s9, s10, s11, s12, s13, s14, s15, s16⟩; (first | (refine load_cells_12 (ty := 47) (x := .tmp 4) (g := B1) ?hlo_ ?hx_ Try.underlying47 ?hd_ ?hi_ s4 s5 s6 s7 s8 s9 s10 s11 s12 s13 s14 s15; (case hlo_ => rfl); (case hx_ => rfl); (case hd_ => rfl); (case hi_ => kernel_rfl)) | (go_simp; with_reducible rfl)))
       refine tak_ 4 (some 26) rfl rfl (take_ofW HT_.out HW_.out (by kernel_rfl)) hHeld ?_ (by rintro w' ⟨s0, s1, s2, s3, s4, s5, s6, s7, s8, s9, s10, s11, s12, s13, s14, s15, s16⟩; (first | (refine load_cells_12 (ty := 47) (x := .tmp 4) (g := B1) ?hlo_ ?hx_ Try.underlying47 ?hd_ ?hi_ s4 s5 s6 s7 s8 s9 s10 s11 s12 s13 s14 s15; (case hlo_ => rfl); (case hx_ => rfl); (case hd_ => rfl); (case hi_ => kernel_rfl)) | (go_simp; with_reducible rfl)))
       refine tak_ 6 (some 28) rfl rfl (take_ofW HT_.out HW_.out (by kernel_rfl)) hHeld ?_ (by rintro w' ⟨s0, s1, s2, s3, s4, s5, s6, s7, s8, s9, s10, s11, s12, s13, s14, s15, s16⟩; (first | (refine load_cells_12 (ty := 47) (x := .tmp 4) (g := B1) ?hlo_ ?hx_ Try.underlying47 ?hd_ ?hi_ s4 s5 s6 s7 s8 s9 s10 s11 s12 s13 s14 s15; (case hlo_ => rfl); (case hx_ => rfl); (case hd_ => rfl); (case hi_ => kernel_rfl)) | (go_simp; with_reducible rfl)))
       refine pur_ 7 (some 29) rfl rfl (any_of HT_.out (by kernel_rfl)) ?_
       refine tak_ 8 (some 30) rfl rfl (take_ofW HT_.out HW_.out (by kernel_rfl)) hHeld ?_ (by rintro w' ⟨s0, s1, s2, s3, s4, s5, s6, s7, s8, s9, s10, s11, s12, s13, s14, s15, s16⟩; (first | (refine load_cells_12 (ty := 47) (x := .tmp 4) (g := B1) ?hlo_ ?hx_ Try.underlying47 ?hd_ ?hi_ s4 s5 s6 s7 s8 s9 s10 s11 s12 s13 s14 s15; (case hlo_ => rfl); (case hx_ => rfl); (case hd_ => rfl); (case hi_ => kernel_rfl)) | (go_simp; with_reducible rfl)))
       refine pur_ 9 (some 31) rfl rfl (any_of HT_.out (by kernel_rfl)) ?_
       refine pur_ 10 (some 21) rfl rfl (any_of HT_.out (by kernel_rfl)) ?_
       refine done_ (done_of HT_.out (by kernel_rfl)) ?_
      iterate 3
       focus
        have J5 := Bk.out
        have J6 := Bf.out
        have J7 := Bl.out
        have J8 := Bg.out
        have Fs : w32.cell? ⟨B4, 0, none⟩ = some (.int .i64 B8) := (blk_cell B2.out 0).trans rfl
        have Ft : w32.cell? ⟨B4, 1, none⟩ = some (.int .i64 B6) := (blk_cell B2.out 1).trans rfl
        have Fu : w32.cell? ⟨B4, 2, none⟩ = some (.int .i64 Bi) := (blk_cell B2.out 2).trans rfl
        have Fv : w32.cell? ⟨B4, 3, none⟩ = some (.string Bc) := (blk_cell B2.out 3).trans rfl
        have Fw := blk_frozen B2.out 0
        have Fx := blk_frozen B2.out 1
        have Fy := blk_frozen B2.out 2
        have Fz := blk_frozen B2.out 3
        have J9 := Bn.out
        have Ja := Bj.out
        have G0 : w32.cell? ⟨B9, 0, none⟩ = some (.int .i64 Br) := (blk_cell B3.out 0).trans rfl
        have G1 : w32.cell? ⟨B9, 1, none⟩ = some (.string D9) := (blk_cell B3.out 1).trans rfl
        have G2 : w32.cell? ⟨B9, 2, none⟩ = some (.slice Df Bd.length Db) := (blk_cell B3.out 2).trans rfl
        have G3 : w32.cell? ⟨B9, 3, none⟩ = some (.slice Dc D5.length Dd) := (blk_cell B3.out 3).trans rfl
        have G4 := blk_frozen B3.out 0
        have G5 := blk_frozen B3.out 1
        have G6 := blk_frozen B3.out 2
        have G7 := blk_frozen B3.out 3
        try go_wp2
       rotate_left
      rotate_left 1
      ·replace B0 := am_ (blk_drew B0.out)
       replace B3 := am_ (blk_drew B3.out)
       replace B2 := am_ (blk_drew B2.out)
       replace HB := am_ (below_drew1 HB.out)
       refine start_ (n := 17) (S := fun w' => ce_ w' B1 0 (.int .i64 Bs) ∧ ce_ w' B1 1 (.int .i64 Bt) ∧ ce_ w' B1 2 (.int .i64 Bu) ∧ ce_ w' B1 3 (.int .i64 Bv) ∧ ce_ w' B1 4 (.int .i64 Bw) ∧ ce_ w' B1 5 (.int .i64 Bx) ∧ ce_ w' B1 6 (.int .i64 By) ∧ ce_ w' B1 7 (.int .i64 Bz) ∧ ce_ w' B1 8 (.int .i64 D0) ∧ ce_ w' B1 9 (.int .i64 D1) ∧ ce_ w' B1 10 (.slice (some Bm) B5.length Bo) ∧ ce_ w' B1 11 (.slice Bp Bb.length Bq) ∧ ce_ w' B4 0 (.int .i64 B8) ∧ ce_ w' B4 1 (.int .i64 B6) ∧ ce_ w' B4 2 (.int .i64 Bi) ∧ ce_ w' B4 3 (.string Bc)) (ds := []) #[false, false, false, false, false, false, false, false, false, false, false, false, false, false, false, false, false] (by kernel_rfl) rfl rfl ⟨(blk_cell B0.out 0).trans rfl, (blk_cell B0.out 1).trans rfl, (blk_cell B0.out 2).trans rfl, (blk_cell B0.out 3).trans rfl, (blk_cell B0.out 4).trans rfl, (blk_cell B0.out 5).trans rfl, (blk_cell B0.out 6).trans rfl, (blk_cell B0.out 7).trans rfl, (blk_cell B0.out 8).trans rfl, (blk_cell B0.out 9).trans rfl, (blk_cell B0.out 10).trans rfl, (blk_cell B0.out 11).trans rfl, (blk_cell B2.out 0).trans rfl, (blk_cell B2.out 1).trans rfl, (blk_cell B2.out 2).trans rfl, (blk_cell B2.out 3).trans rfl⟩ (fun hHeld => ?_); refine with_tabW round_machine_message.tab9 round_machine_message.bits9 (fun HT_ HW_ => ?_)
       generalize w32.drew = w38 at B0 B3 B2 HB hHeld ⊢
       refine pur_ 1 (some 44) rfl rfl (any_of HT_.out (by kernel_rfl)) ?_
       refine tak_ 0 (some 43) rfl rfl (take_ofW HT_.out HW_.out (by kernel_rfl)) hHeld ?_ (by rintro w' ⟨s0, s1, s2, s3, s4, s5, s6, s7, s8, s9, s10, s11, s12, s13, s14, s15⟩; (first | (refine load_cells_12 (ty := 47) (x := .tmp 4) (g := B1) ?hlo_ ?hx_ Try.underlying47 ?hd_ ?hi_ s0 s1 s2 s3 s4 s5 s6 s7 s8 s9 s10 s11; (case hlo_ => rfl); (case hx_ => rfl); (case hd_ => rfl); (case hi_ => kernel_rfl)) | (go_simp; with_reducible rfl)))
       refine tak_ 2 (some 45) rfl rfl (take_ofW HT_.out HW_.out (by kernel_rfl)) hHeld ?_ (by rintro w' ⟨s0, s1, s2, s3, s4, s5, s6, s7, s8, s9, s10, s11, s12, s13, s14, s15⟩; (first | (refine load_cells_12 (ty := 47) (x := .tmp 4) (g := B1) ?hlo_ ?hx_ Try.underlying47 ?hd_ ?hi_ s0 s1 s2 s3 s4 s5 s6 s7 s8 s9 s10 s11; (case hlo_ => rfl); (case hx_ => rfl); (case hd_ => rfl); (case hi_ => kernel_rfl)) | (go_simp; with_reducible rfl)))
       refine oon_ 3 (some 46) rfl rfl (one_of HT_.out (by kernel_rfl)) (fun K hK => ?_)
       refine gos_ Try.func25 (round_machine_lies.calls G9 Bs Bt Bu Bv Bw Bx By Bz D0 D1 _ _ B5 _ _ Bb B8 _ _ (Kd.C_below D6.out HB.out) Dg.out (Kd.C_below Dh.out HB.out) Di.out Gb.out) ?_
       rintro e w39 ⟨rfl, hb⟩
       refine ⟨_, rfl, ?_⟩
       replace B0 := bkb_ B0 hb
       replace B3 := bkb_ B3 hb
       replace B2 := bkb_ B2 hb
       replace HB := bst_ HB hb
       (try clear hb)
       (try clear hb2)
       (try clear hk)
       (try clear hi)
       refine hK.out _ _ (and_12 B0.out ⟨(blk_cell B2.out 0).trans rfl, (blk_cell B2.out 1).trans rfl, (blk_cell B2.out 2).trans rfl, (blk_cell B2.out 3).trans rfl⟩) (fun hHeld => ?_)
       clear hK K
       refine nor_ 46 ?_
       refine pur_ 4 (some 47) rfl rfl (any_of HT_.out (by kernel_rfl)) ?_
       refine pur_ 5 (some 48) rfl rfl (any_of HT_.out (by kernel_rfl)) ?_
       refine puu_ 6 (some 49) rfl rfl (any_of HT_.out (by kernel_rfl)) ?_
       refine puu_ 7 (some 50) rfl rfl (any_of HT_.out (by kernel_rfl)) ?_
       refine puu_ 8 (some 51) rfl rfl (any_of HT_.out (by kernel_rfl)) ?_
       refine puu_ 9 (some 52) rfl rfl (any_of HT_.out (by kernel_rfl)) ?_
       refine puu_ 10 (some 53) rfl rfl (any_of HT_.out (by kernel_rfl)) ?_
       refine puu_ 11 (some 54) rfl rfl (any_of HT_.out (by kernel_rfl)) ?_
       refine puu_ 12 (some 55) rfl rfl (any_of HT_.out (by kernel_rfl)) ?_
       refine puu_ 13 (some 56) rfl rfl (any_of HT_.out (by kernel_rfl)) ?_
       refine puu_ 14 (some 57) rfl rfl (any_of HT_.out (by kernel_rfl)) ?_
       refine pur_ 15 (some 58) rfl rfl (any_of HT_.out (by kernel_rfl)) ?_
       refine pur_ 16 (some 38) rfl rfl (any_of HT_.out (by kernel_rfl)) ?_
       refine done_ (done_of HT_.out (by kernel_rfl)) ?_
       try go_wp2
       go_ret
       exact ⟨by first | rfl | (simp [*] <;> rfl), by repeat (first | (with_reducible first | exact HB.out | apply ba_ | apply bn_ | apply bd_ | refine bs_ ?_ D2.out | refine bs_ ?_ D3.out | refine bs_ ?_ D4.out) | exact HB.out)⟩
      ·replace B0 := am_ (blk_drew B0.out)
       replace B3 := am_ (blk_drew B3.out)
       replace B2 := am_ (blk_drew B2.out)
       replace HB := am_ (below_drew1 HB.out)
       have Dj : 0 ≤ (B8 : Int) := of_decide_eq_true (by first | (with_reducible assumption) | assumption)
       have Dk : B8 < (Bd.length : Int) := of_decide_eq_true (by first | (with_reducible assumption) | assumption)
       obtain ⟨De, E9, Ba⟩ := Kd.at_string E4.out B8 Dj Dk
       have Be := Ba
       cases E9
       replace Ba := (HB.out.cell (World.block_lt_of_cell? w _ Ba)).trans Ba
       replace Dj := eq_true Dj
       replace Dk := eq_true Dk
       refine start_ (n := 17) (S := fun w' => ce_ w' B1 0 (.int .i64 Bs) ∧ ce_ w' B1 1 (.int .i64 Bt) ∧ ce_ w' B1 2 (.int .i64 Bu) ∧ ce_ w' B1 3 (.int .i64 Bv) ∧ ce_ w' B1 4 (.int .i64 Bw) ∧ ce_ w' B1 5 (.int .i64 Bx) ∧ ce_ w' B1 6 (.int .i64 By) ∧ ce_ w' B1 7 (.int .i64 Bz) ∧ ce_ w' B1 8 (.int .i64 D0) ∧ ce_ w' B1 9 (.int .i64 D1) ∧ ce_ w' B1 10 (.slice (some Bm) B5.length Bo) ∧ ce_ w' B1 11 (.slice Bp Bb.length Bq) ∧ ce_ w' B4 0 (.int .i64 B8) ∧ ce_ w' B4 1 (.int .i64 B6) ∧ ce_ w' B4 2 (.int .i64 Bi) ∧ ce_ w' B4 3 (.string Bc) ∧ ce_ w' B9 0 (.int .i64 Br) ∧ ce_ w' B9 1 (.string D9) ∧ ce_ w' B9 2 (.slice (some De) Bd.length Db) ∧ ce_ w' B9 3 (.slice Dc D5.length Dd) ∧ w'.cell? (De.add (B8).toNat) = some (.string (rdOf ByteArray.empty Bd B8))) (ds := []) #[false, false, false, false, false, false, false, false, false, false, false, false, false, false, false, false, false] (by kernel_rfl) rfl rfl ⟨(blk_cell B0.out 0).trans rfl, (blk_cell B0.out 1).trans rfl, (blk_cell B0.out 2).trans rfl, (blk_cell B0.out 3).trans rfl, (blk_cell B0.out 4).trans rfl, (blk_cell B0.out 5).trans rfl, (blk_cell B0.out 6).trans rfl, (blk_cell B0.out 7).trans rfl, (blk_cell B0.out 8).trans rfl, (blk_cell B0.out 9).trans rfl, (blk_cell B0.out 10).trans rfl, (blk_cell B0.out 11).trans rfl, (blk_cell B2.out 0).trans rfl, (blk_cell B2.out 1).trans rfl, (blk_cell B2.out 2).trans rfl, (blk_cell B2.out 3).trans rfl, (blk_cell B3.out 0).trans rfl, (blk_cell B3.out 1).trans rfl, (blk_cell B3.out 2).trans rfl, (blk_cell B3.out 3).trans rfl, ((HB.out.cell (World.block_lt_of_cell? w _ Be)).trans Be)⟩ (fun hHeld => ?_); refine with_tabW round_machine_message.tab9 round_machine_message.bits9 (fun HT_ HW_ => ?_)
       generalize w32.drew = w57 at B0 B3 B2 HB Ba hHeld ⊢
       refine pur_ 1 (some 44) rfl rfl (any_of HT_.out (by kernel_rfl)) ?_
       refine tak_ 0 (some 43) rfl rfl (take_ofW HT_.out HW_.out (by kernel_rfl)) hHeld ?_ (by rintro w' ⟨s0, s1, s2, s3, s4, s5, s6, s7, s8, s9, s10, s11, s12, s13, s14, s15, s16, s17, s18, s19, s20⟩; (first | (refine load_cells_12 (ty := 47) (x := .tmp 4) (g := B1) ?hlo_ ?hx_ Try.underlying47 ?hd_ ?hi_ s0 s1 s2 s3 s4 s5 s6 s7 s8 s9 s10 s11; (case hlo_ => rfl); (case hx_ => rfl); (case hd_ => rfl); (case hi_ => kernel_rfl)) | (go_simp; with_reducible rfl)))
       refine tak_ 2 (some 45) rfl rfl (take_ofW HT_.out HW_.out (by kernel_rfl)) hHeld ?_ (by rintro w' ⟨s0, s1, s2, s3, s4, s5, s6, s7, s8, s9, s10, s11, s12, s13, s14, s15, s16, s17, s18, s19, s20⟩; (first | (refine load_cells_12 (ty := 47) (x := .tmp 4) (g := B1) ?hlo_ ?hx_ Try.underlying47 ?hd_ ?hi_ s0 s1 s2 s3 s4 s5 s6 s7 s8 s9 s10 s11; (case hlo_ => rfl); (case hx_ => rfl); (case hd_ => rfl); (case hi_ => kernel_rfl)) | (go_simp; with_reducible rfl)))
       refine oon_ 3 (some 46) rfl rfl (one_of HT_.out (by kernel_rfl)) (fun K hK => ?_)
       refine gos_ Try.func25 (round_machine_lies.calls G9 Bs Bt Bu Bv Bw Bx By Bz D0 D1 _ _ B5 _ _ Bb B8 _ _ (Kd.C_below D6.out HB.out) Dg.out (Kd.C_below Dh.out HB.out) Di.out Gb.out) ?_
       rintro e w58 ⟨rfl, hb⟩
       refine ⟨_, rfl, ?_⟩
       replace B0 := bkb_ B0 hb
       replace B3 := bkb_ B3 hb
       replace B2 := bkb_ B2 hb
       replace HB := bst_ HB hb
       (try clear hb)
       (try clear hb2)
       (try clear hk)
       (try clear hi)
       refine hK.out _ _ (and_12 B0.out ⟨(blk_cell B2.out 0).trans rfl, (blk_cell B2.out 1).trans rfl, (blk_cell B2.out 2).trans rfl, (blk_cell B2.out 3).trans rfl, (blk_cell B3.out 0).trans rfl, (blk_cell B3.out 1).trans rfl, (blk_cell B3.out 2).trans rfl, (blk_cell B3.out 3).trans rfl, ((HB.out.cell (World.block_lt_of_cell? w _ Be)).trans Be)⟩) (fun hHeld => ?_)
       clear hK K
       refine nor_ 46 ?_
       refine pur_ 4 (some 47) rfl rfl (any_of HT_.out (by kernel_rfl)) ?_
       refine pur_ 5 (some 48) rfl rfl (any_of HT_.out (by kernel_rfl)) ?_
       refine pur_ 6 (some 49) rfl rfl (any_of HT_.out (by kernel_rfl)) ?_
       refine pur_ 8 (some 51) rfl rfl (any_of HT_.out (by kernel_rfl)) ?_
       refine pur_ 10 (some 53) rfl rfl (any_of HT_.out (by kernel_rfl)) ?_
       refine tak_ 7 (some 50) rfl rfl (take_ofW HT_.out HW_.out (by kernel_rfl)) hHeld ?_ (by rintro w' ⟨s0, s1, s2, s3, s4, s5, s6, s7, s8, s9, s10, s11, s12, s13, s14, s15, s16, s17, s18, s19, s20⟩; (first | (refine load_cells_12 (ty := 47) (x := .tmp 4) (g := B1) ?hlo_ ?hx_ Try.underlying47 ?hd_ ?hi_ s0 s1 s2 s3 s4 s5 s6 s7 s8 s9 s10 s11; (case hlo_ => rfl); (case hx_ => rfl); (case hd_ => rfl); (case hi_ => kernel_rfl)) | (go_simp; with_reducible rfl)))
       refine tak_ 9 (some 52) rfl rfl (take_ofW HT_.out HW_.out (by kernel_rfl)) hHeld ?_ (by rintro w' ⟨s0, s1, s2, s3, s4, s5, s6, s7, s8, s9, s10, s11, s12, s13, s14, s15, s16, s17, s18, s19, s20⟩; (first | (refine load_cells_12 (ty := 47) (x := .tmp 4) (g := B1) ?hlo_ ?hx_ Try.underlying47 ?hd_ ?hi_ s0 s1 s2 s3 s4 s5 s6 s7 s8 s9 s10 s11; (case hlo_ => rfl); (case hx_ => rfl); (case hd_ => rfl); (case hi_ => kernel_rfl)) | (go_simp; with_reducible rfl)))
       refine tak_ 11 (some 54) rfl rfl (take_ofW HT_.out HW_.out (by kernel_rfl)) hHeld ?_ (by rintro w' ⟨s0, s1, s2, s3, s4, s5, s6, s7, s8, s9, s10, s11, s12, s13, s14, s15, s16, s17, s18, s19, s20⟩; (first | (refine load_cells_12 (ty := 47) (x := .tmp 4) (g := B1) ?hlo_ ?hx_ Try.underlying47 ?hd_ ?hi_ s0 s1 s2 s3 s4 s5 s6 s7 s8 s9 s10 s11; (case hlo_ => rfl); (case hx_ => rfl); (case hd_ => rfl); (case hi_ => kernel_rfl)) | (go_simp; with_reducible rfl)))
       refine pur_ 12 (some 55) rfl rfl (any_of HT_.out (by kernel_rfl)) ?_
       refine tak_ 13 (some 56) rfl rfl (take_ofW HT_.out HW_.out (by kernel_rfl)) hHeld ?_ (by rintro w' ⟨s0, s1, s2, s3, s4, s5, s6, s7, s8, s9, s10, s11, s12, s13, s14, s15, s16, s17, s18, s19, s20⟩; (first | (refine load_cells_12 (ty := 47) (x := .tmp 4) (g := B1) ?hlo_ ?hx_ Try.underlying47 ?hd_ ?hi_ s0 s1 s2 s3 s4 s5 s6 s7 s8 s9 s10 s11; (case hlo_ => rfl); (case hx_ => rfl); (case hd_ => rfl); (case hi_ => kernel_rfl)) | (go_simp; with_reducible rfl)))
       refine pur_ 14 (some 57) rfl rfl (any_of HT_.out (by kernel_rfl)) ?_
       refine pur_ 15 (some 58) rfl rfl (any_of HT_.out (by kernel_rfl)) ?_
       refine pur_ 16 (some 38) rfl rfl (any_of HT_.out (by kernel_rfl)) ?_
       refine done_ (done_of HT_.out (by kernel_rfl)) ?_
       try go_wp2
       go_ret
       exact ⟨by first | rfl | (simp [*] <;> rfl), by repeat (first | (with_reducible first | exact HB.out | apply ba_ | apply bn_ | apply bd_ | refine bs_ ?_ D2.out | refine bs_ ?_ D3.out | refine bs_ ?_ D4.out) | exact HB.out)⟩
      ·go_ret
       exact ⟨by first | rfl | (simp [*] <;> rfl), by repeat (first | (with_reducible first | exact HB.out | apply ba_ | apply bn_ | apply bd_ | refine bs_ ?_ D2.out | refine bs_ ?_ D3.out | refine bs_ ?_ D4.out) | exact HB.out)⟩
      ·try go_wp2
       go_ret
       exact ⟨by first | rfl | (simp [*] <;> rfl), by repeat (first | (with_reducible first | exact HB.out | apply ba_ | apply bn_ | apply bd_ | refine bs_ ?_ D2.out | refine bs_ ?_ D3.out | refine bs_ ?_ D4.out) | exact HB.out)⟩
     ·rw [if_neg Es] at H
      exact absurd H (by simp)
    ·rw [if_neg Er] at H
     exact absurd H (by simp)
end Go.Proofs.Ytdnccjlfongdeaa.Gn
