import Derived.Test.YtdnccjlfongdeaaZRoundOnlyGn0
import Derived.Test.YtdnccjlfongdeaaZRoundOnlyGn2
import Derived.Test.YtdnccjlfongdeaaZRoundOnlyGn4
import Derived.Test.YtdnccjlfongdeaaZRoundOnlyGn9
import Derived.Test.YtdnccjlfongdeaaZRoundOnlyGn10
import Derived.Test.YtdnccjlfongdeaaZRoundOnlyGn15
namespace Go.Proofs.Ytdnccjlfongdeaa.Gn
open Go.RowKit Go.Proofs.YtdnccjlfongdeaaW.PrintWords Go.Proofs.YtdnccjlfongdeaaW.PrintLast Go.Proofs.YtdnccjlfongdeaaW.PrintMore
attribute [local go_sem] max2_int min2_int max_two min_two max_three min_three max_four min_four   -- for this text's walks alone
set_option linter.unusedVariables false
set_option linter.unusedSimpArgs false
def round_Follows.f (k : Nat) (B1 B2 B3 B4 B5 B6 B7 B8 B9 Ba : Int) (B0 : List Int) (Bb : Int) (Bf : ByteArray) (Bg : List ByteArray) (Bh : List (List (S45))) (Bc : Int) (Bi : ByteArray) (Bj : List ByteArray) (Bk : List (List (S45))) : Option (Bool) := (conf_Plain.f k B1 B2 B3 B4 B5 B6 B7 B8 B9 Ba B0).bind fun Bd => (if Bd = 0 then ((number_Apart.f k B1 B2 B3 B4 B5 B6 B7 B8 B9 Ba B0 Bb Bc).bind fun Be => (some (Be == 1))) else (some false))
theorem round_Follows.mono : ∀ a0 a1 a2 a3 a4 a5 a6 a7 a8 a9 B0 B1 B2 B3 B4 B5 B6 B7 B8 k, LeO (round_Follows.f k a0 a1 a2 a3 a4 a5 a6 a7 a8 a9 B0 B1 B2 B3 B4 B5 B6 B7 B8) (round_Follows.f (k + 1) a0 a1 a2 a3 a4 a5 a6 a7 a8 a9 B0 B1 B2 B3 B4 B5 B6 B7 B8) := by
 intro a0 a1 a2 a3 a4 a5 a6 a7 a8 a9 B0 B1 B2 B3 B4 B5 B6 B7 B8 k
 unfold round_Follows.f
 repeat' first
   | (with_reducible exact conf_Plain.mono _ _ _ _ _ _ _ _ _ _ _ _)
   | (with_reducible exact number_Apart.mono _ _ _ _ _ _ _ _ _ _ _ _ _ _)
   | (with_reducible exact LeO.refl _)
   | (with_reducible exact LeO.none _)
   | (with_reducible refine LeO.ite ?_ ?_)
   | (with_reducible refine LeO.bind ?_ (fun _ => ?_))
   | exact conf_Plain.mono _ _ _ _ _ _ _ _ _ _ _ _
   | exact number_Apart.mono _ _ _ _ _ _ _ _ _ _ _ _ _ _
   | exact LeO.none _
   | refine LeO.ite ?_ ?_
   | refine LeO.bind ?_ (fun _ => ?_)
set_option maxHeartbeats 8000000 in
set_option maxRecDepth 100000 in
theorem round_Follows.calls (k : Nat) (Ba Bb Bc Bd Be Bf Bg Bh Bi Bj : Int) (Bq : Option Addr) (Br : Nat) (B5 : List Int) (Bs : Int) (D3 : ByteArray) (D4 : Option Addr) (D5 : Nat) (Bk : List ByteArray) (D6 : Option Addr) (D7 : Nat) (Bl : List (List (S45))) (Bt : Int) (D8 : ByteArray) (D9 : Option Addr) (Da : Nat) (Bm : List ByteArray) (Db : Option Addr) (Dc : Nat) (Bn : List (List (S45))) (r : Bool) (w : World) (Bu : Kd.C (Kd.int .i64) w Bq B5.length B5) (Bv : B5.length ≤ Br) (Dd : Kd.C Kd.string w D4 Bk.length Bk) (De : Bk.length ≤ D5) (Df : Kd.C (Kd.slice 45 k45) w D6 Bl.length Bl) (Dg : Bl.length ≤ D7) (Dh : Kd.C Kd.string w D9 Bm.length Bm) (Di : Bm.length ≤ Da) (Dj : Kd.C (Kd.slice 45 k45) w Db Bn.length Bn) (Dk : Bn.length ≤ Dc) (h : round_Follows.f k Ba Bb Bc Bd Be Bf Bg Bh Bi Bj B5 Bs D3 Bk Bl Bt D8 Bm Bn = some r) :
  Calls Try.prog 12 #[.agg #[.int .i64 Ba, .int .i64 Bb, .int .i64 Bc, .int .i64 Bd, .int .i64 Be, .int .i64 Bf, .int .i64 Bg, .int .i64 Bh, .int .i64 Bi, .int .i64 Bj, .slice Bq B5.length Br], .agg #[.int .i64 Bs, .string D3, .slice D4 Bk.length D5, .slice D6 Bl.length D7], .agg #[.int .i64 Bt, .string D8, .slice D9 Bm.length Da, .slice Db Bn.length Dc]] w fun e w' => e = .returned (.bool r) ∧ Below w.heap.size w w' := by
 have Ek := Try.underlying24
 have El := Try.underlying32
 have Bo := am_ Bu
 have Bp := am_ Bv
 clear Bu Bv
 have Dr := am_ Dd
 have Ds := am_ De
 clear Dd De
 have Dt := am_ Df
 have Du := am_ Dg
 clear Df Dg
 have Dv := am_ Dh
 have Dw := am_ Di
 clear Dh Di
 have Dx := am_ Dj
 have Dy := am_ Dk
 clear Dj Dk
 have HB := am_ (Below.refl w.heap.size w)
 have H := h
 unfold round_Follows.f at H
 clear h
 obtain ⟨Bw, A4, H⟩ := bes_ H
 try dsimp only at H
 by_cases c5 : Bw = 0
 ·rw [if_pos c5] at H
  have Do : (Bw == 0) = true := beq_iff_eq.mpr c5
  have Dp : (Bw != 0) = false := bne_eq_false_iff_eq.mpr c5
  clear c5
  replace H := Option.bind_eq_some_iff.mp H
  obtain ⟨Dq, Dz, H⟩ := H
  replace H : (some (Dq == 1)) = some r := H
  have A6 := am_ Dz
  clear Dz
  obtain rfl := Option.some.inj H
  go_enter Try.func12, Try.ntmps12
  go_wp2_with (first | ((with_reducible refine gate_dst (N := 3) rfl ?_); refine bxe_ 3 24 #[.int .i64 Ba, .int .i64 Bb, .int .i64 Bc, .int .i64 Bd, .int .i64 Be, .int .i64 Bf, .int .i64 Bg, .int .i64 Bh, .int .i64 Bi, .int .i64 Bj, .slice Bq B5.length Br] ?_; intro Dl hg w7 hbox hb; have B0 := am_ (hbox); have Bx := gwk_ HB hg; have By := Bx; replace HB := bst_ HB hb; clear hb hbox hg) | ((with_reducible refine gate_dst (N := 4) rfl ?_); refine bxe_ 4 32 #[.int .i64 Bs, .string D3, .slice D4 Bk.length D5, .slice D6 Bl.length D7] ?_; intro Dm hg w8 hbox hb; have B1 := am_ (hbox); have Bz := gwk_ HB hg; have D0 := Bz; replace HB := bst_ HB hb; have B2 := nbk_ B0 hg; have B7 := nbs_ B2; replace B0 := bkb_ B0 hb; clear hb hbox hg) | ((with_reducible refine gate_dst (N := 5) rfl ?_); refine bxe_ 5 32 #[.int .i64 Bt, .string D8, .slice D9 Bm.length Da, .slice Db Bn.length Dc] ?_; intro Dn hg w9 hbox hb; have B6 := am_ (hbox); have D1 := gwk_ HB hg; have D2 := D1; replace HB := bst_ HB hb; have B3 := nbk_ B0 hg; have B8 := nbs_ B3; replace B0 := bkb_ B0 hb; have B4 := nbk_ B1 hg; have B9 := nbs_ B4; replace B1 := bkb_ B1 hb; clear hb hbox hg; have E0 := B2.out; have E1 := B7.out; have E2 := B3.out; have E3 := B8.out; have E4 := cells_11 B0.out; have E5 := frozen_11 B0.out) | ((with_reducible refine gate_callee (f := 18) rfl ?_); refine gom_ (some 8) Try.func18 (conf_Plain.calls k Ba Bb Bc Bd Be Bf Bg Bh Bi Bj _ _ B5 _ _ (Kd.C_below Bo.out HB.out) Bp.out A4.out) ?_; rintro e w13 ⟨rfl, hb⟩; refine ⟨_, rfl, ?_⟩; replace B0 := bkb_ B0 hb; replace B1 := bkb_ B1 hb; replace B6 := bkb_ B6 hb; replace HB := bst_ HB hb; (try clear hb); have E6 := cells_11 B0.out; have E7 := frozen_11 B0.out; have E8 := B4.out; have E9 := B9.out; have Ea := cells_4 B1.out; have Eb := frozen_4 B1.out; have Ec := cells_4 B6.out; have Ed := frozen_4 B6.out) | (go_at_call 33; (with_reducible refine (number_Apart.calls k Ba Bb Bc Bd Be Bf Bg Bh Bi Bj _ _ B5 Bs Bt _ _ (Kd.C_below Bo.out HB.out) Bp.out A6.out).mono ?_); rintro e w18 ⟨rfl, hb⟩; replace B0 := bkb_ B0 hb; replace B1 := bkb_ B1 hb; replace B6 := bkb_ B6 hb; replace HB := bst_ HB hb; (try clear hb)))
  go_ret
  exact ⟨by first | rfl | (simp [*] <;> rfl), by repeat (first | (with_reducible first | exact HB.out | apply ba_ | apply bn_ | apply bd_ | refine bs_ ?_ By.out | refine bs_ ?_ D0.out | refine bs_ ?_ D2.out) | exact HB.out)⟩
 ·rw [if_neg c5] at H
  have Do : (Bw == 0) = false := beq_eq_false_iff_ne.mpr c5
  have Dp : (Bw != 0) = true := bne_iff_ne.mpr c5
  obtain rfl := Option.some.inj H
  go_enter Try.func12, Try.ntmps12
  go_wp2_with (first | ((with_reducible refine gate_dst (N := 3) rfl ?_); refine bxe_ 3 24 #[.int .i64 Ba, .int .i64 Bb, .int .i64 Bc, .int .i64 Bd, .int .i64 Be, .int .i64 Bf, .int .i64 Bg, .int .i64 Bh, .int .i64 Bi, .int .i64 Bj, .slice Bq B5.length Br] ?_; intro Dl hg w19 hbox hb; have B0 := am_ (hbox); have Bx := gwk_ HB hg; have By := Bx; replace HB := bst_ HB hb; clear hb hbox hg) | ((with_reducible refine gate_dst (N := 4) rfl ?_); refine bxe_ 4 32 #[.int .i64 Bs, .string D3, .slice D4 Bk.length D5, .slice D6 Bl.length D7] ?_; intro Dm hg w20 hbox hb; have B1 := am_ (hbox); have Bz := gwk_ HB hg; have D0 := Bz; replace HB := bst_ HB hb; have B2 := nbk_ B0 hg; have B7 := nbs_ B2; replace B0 := bkb_ B0 hb; clear hb hbox hg) | ((with_reducible refine gate_dst (N := 5) rfl ?_); refine bxe_ 5 32 #[.int .i64 Bt, .string D8, .slice D9 Bm.length Da, .slice Db Bn.length Dc] ?_; intro Dn hg w21 hbox hb; have B6 := am_ (hbox); have D1 := gwk_ HB hg; have D2 := D1; replace HB := bst_ HB hb; have B3 := nbk_ B0 hg; have B8 := nbs_ B3; replace B0 := bkb_ B0 hb; have B4 := nbk_ B1 hg; have B9 := nbs_ B4; replace B1 := bkb_ B1 hb; clear hb hbox hg; have Ee := B2.out; have Ef := B7.out; have Eg := B3.out; have Eh := B8.out; have Ei := cells_11 B0.out; have Ej := frozen_11 B0.out) | ((with_reducible refine gate_callee (f := 18) rfl ?_); refine gom_ (some 8) Try.func18 (conf_Plain.calls k Ba Bb Bc Bd Be Bf Bg Bh Bi Bj _ _ B5 _ _ (Kd.C_below Bo.out HB.out) Bp.out A4.out) ?_; rintro e w25 ⟨rfl, hb⟩; refine ⟨_, rfl, ?_⟩; replace B0 := bkb_ B0 hb; replace B1 := bkb_ B1 hb; replace B6 := bkb_ B6 hb; replace HB := bst_ HB hb; (try clear hb)))
  go_ret
  exact ⟨by first | rfl | (simp [*] <;> rfl), by repeat (first | (with_reducible first | exact HB.out | apply ba_ | apply bn_ | apply bd_ | refine bs_ ?_ By.out | refine bs_ ?_ D0.out | refine bs_ ?_ D2.out) | exact HB.out)⟩
def round_machine_members.f (k : Nat) (B1 B2 B3 B4 B5 B6 B7 B8 B9 Ba : Int) (B0 Bb : List Int) (a1 : ByteArray) : Option (Bool) := if (a1.size : Int) = B1 then ((round_machine_honest.f k B1 B2 B3 B4 B5 B6 B7 B8 B9 Ba B0 Bb).bind fun Bc => ((roster_Mark.f k B1 B2 B3 B4 B5 B6 B7 B8 B9 Ba B0 a1 Bc).bind fun Bd => (some (Bd.toList == a1.toList)))) else (some false)
theorem round_machine_members.mono : ∀ a0 a1 a2 a3 a4 a5 a6 a7 a8 a9 B0 B1 B2 k, LeO (round_machine_members.f k a0 a1 a2 a3 a4 a5 a6 a7 a8 a9 B0 B1 B2) (round_machine_members.f (k + 1) a0 a1 a2 a3 a4 a5 a6 a7 a8 a9 B0 B1 B2) := by
 intro a0 a1 a2 a3 a4 a5 a6 a7 a8 a9 B0 B1 B2 k
 unfold round_machine_members.f
 repeat' first
   | (with_reducible exact roster_Mark.mono _ _ _ _ _ _ _ _ _ _ _ _ _ _)
   | (with_reducible exact round_machine_honest.mono _ _ _ _ _ _ _ _ _ _ _ _ _)
   | (with_reducible exact LeO.refl _)
   | (with_reducible exact LeO.none _)
   | (with_reducible refine LeO.ite ?_ ?_)
   | (with_reducible refine LeO.bind ?_ (fun _ => ?_))
   | exact roster_Mark.mono _ _ _ _ _ _ _ _ _ _ _ _ _ _
   | exact round_machine_honest.mono _ _ _ _ _ _ _ _ _ _ _ _ _
   | exact LeO.none _
   | refine LeO.ite ?_ ?_
   | refine LeO.bind ?_ (fun _ => ?_)
def round_machine_members.T1 : Bool × List (List Nat × List Nat) := (true, [([], []), ([0], [0]), ([], []), ([2], [2]), ([3], [3]), ([1, 4], [1, 4]), ([5], [5]), ([6], [6]), ([7, 6], [6, 7]), ([6], [6]), ([6], [6]), ([10, 6, 6], [6, 10]), ([8, 9, 11, 11, 6], [6, 8, 9, 11]), ([6], [6]), ([12, 13, 6], [6, 12, 13]), ([6, 14], [6, 14]), ([15, 12, 0, 1, 2, 3, 4, 5, 6, 7, 8, 9, 10, 11, 12, 13, 14, 15], [15])])
def round_machine_members.B1 : List Nat := [0, 1, 0, 4, 12, 31, 63, 127, 255, 127, 127, 1151, 4095, 127, 16383, 32767, 65535]
theorem round_machine_members.tab1 : rtab .any (opsOf Try.f35 1) = round_machine_members.T1 := by kernel_rfl
theorem round_machine_members.bits1 : waitsOk round_machine_members.T1.2 round_machine_members.B1 = true := by kernel_rfl
set_option maxHeartbeats 8000000 in
set_option maxRecDepth 100000 in
theorem round_machine_members.calls (k : Nat) (B4 B9 Ba Bb Bc Bd Be Bf Bg Bh : Int) (B5 : Option Addr) (B6 : Nat) (B2 : List Int) (B7 : Option Addr) (B8 : Nat) (B3 : List Int) (a1 : ByteArray) (r : Bool) (w : World) (Bj : Kd.C (Kd.int .i64) w B5 B2.length B2) (Bk : B2.length ≤ B6) (Bl : Kd.C (Kd.int .i64) w B7 B3.length B3) (Bm : B3.length ≤ B8) (h : round_machine_members.f k B4 B9 Ba Bb Bc Bd Be Bf Bg Bh B2 B3 a1 = some r) :
  Calls Try.prog 35 #[.agg #[.int .i64 B4, .int .i64 B9, .int .i64 Ba, .int .i64 Bb, .int .i64 Bc, .int .i64 Bd, .int .i64 Be, .int .i64 Bf, .int .i64 Bg, .int .i64 Bh, .slice B5 B2.length B6, .slice B7 B3.length B8], .string a1] w fun e w' => e = .returned (.bool r) ∧ Below w.heap.size w w' := by
 have By := Try.underlying24
 have Bn := am_ Bj
 have Bo := am_ Bk
 clear Bj Bk
 have Br := am_ Bl
 have Bs := am_ Bm
 clear Bl Bm
 have HB := am_ (Below.refl w.heap.size w)
 have H := h
 unfold round_machine_members.f at H
 clear h
 by_cases c3 : (a1.size : Int) = B4
 ·rw [if_pos c3] at H
  have Bt : ((a1.size : Int) == B4) = true := beq_iff_eq.mpr c3
  have Bu : ((a1.size : Int) != B4) = false := bne_eq_false_iff_eq.mpr c3
  clear c3
  obtain ⟨Bv, A4, H⟩ := bes_ H
  try dsimp only at H
  obtain ⟨Bz, A5, H⟩ := bes_ H
  try dsimp only at H
  obtain rfl := Option.some.inj H
  go_enter Try.func35, Try.ntmps35
  try go_wp2_with (first | ((with_reducible refine gate_load (t := 47) (x := .tmp 2) rfl ?_); refine lrg_ 47 (.tmp 2) B1 47 (by exact B0.out) Try.underlying47 ?_) | ((with_reducible refine gate_dst (N := 2) rfl ?_); refine bxe_ 2 47 #[.int .i64 B4, .int .i64 B9, .int .i64 Ba, .int .i64 Bb, .int .i64 Bc, .int .i64 Bd, .int .i64 Be, .int .i64 Bf, .int .i64 Bg, .int .i64 Bh, .slice B5 B2.length B6, .slice B7 B3.length B8] ?_; intro B1 hg w6 hbox hb; have B0 := am_ (hbox); have Bp := gwk_ HB hg; have Bq := Bp; replace HB := bst_ HB hb; clear hb hbox hg))
  replace B0 := am_ (blk_drew B0.out)
  replace HB := am_ (below_drew1 HB.out)
  refine start_ (n := 17) (S := fun w' => ce_ w' B1 0 (.int .i64 B4) ∧ ce_ w' B1 1 (.int .i64 B9) ∧ ce_ w' B1 2 (.int .i64 Ba) ∧ ce_ w' B1 3 (.int .i64 Bb) ∧ ce_ w' B1 4 (.int .i64 Bc) ∧ ce_ w' B1 5 (.int .i64 Bd) ∧ ce_ w' B1 6 (.int .i64 Be) ∧ ce_ w' B1 7 (.int .i64 Bf) ∧ ce_ w' B1 8 (.int .i64 Bg) ∧ ce_ w' B1 9 (.int .i64 Bh) ∧ ce_ w' B1 10 (.slice B5 B2.length B6) ∧ ce_ w' B1 11 (.slice B7 B3.length B8)) (ds := []) #[false, false, false, false, false, false, false, false, false, false, false, false, false, false, false, false, false] (by kernel_rfl) rfl rfl ⟨(blk_cell B0.out 0).trans rfl, (blk_cell B0.out 1).trans rfl, (blk_cell B0.out 2).trans rfl, (blk_cell B0.out 3).trans rfl, (blk_cell B0.out 4).trans rfl, (blk_cell B0.out 5).trans rfl, (blk_cell B0.out 6).trans rfl, (blk_cell B0.out 7).trans rfl, (blk_cell B0.out 8).trans rfl, (blk_cell B0.out 9).trans rfl, (blk_cell B0.out 10).trans rfl, (blk_cell B0.out 11).trans rfl⟩ (fun hHeld => ?_); refine with_tabW round_machine_members.tab1 round_machine_members.bits1 (fun HT_ HW_ => ?_)
  generalize w6.drew = w7 at B0 HB hHeld ⊢
  refine pur_ 0 (some 5) rfl rfl (any_of HT_.out (by kernel_rfl)) ?_
  refine pur_ 1 (some 6) rfl rfl (any_of HT_.out (by kernel_rfl)) ?_
  refine pur_ 2 (some 7) rfl rfl (any_of HT_.out (by kernel_rfl)) ?_
  refine pur_ 3 (some 8) rfl rfl (any_of HT_.out (by kernel_rfl)) ?_
  refine tak_ 4 (some 9) rfl rfl (take_ofW HT_.out HW_.out (by kernel_rfl)) hHeld ?_ (by rintro w' ⟨s0, s1, s2, s3, s4, s5, s6, s7, s8, s9, s10, s11⟩; (first | (refine load_cells_12 (ty := 47) (x := .tmp 2) (g := B1) ?hlo_ ?hx_ Try.underlying47 ?hd_ ?hi_ s0 s1 s2 s3 s4 s5 s6 s7 s8 s9 s10 s11; (case hlo_ => rfl); (case hx_ => rfl); (case hd_ => rfl); (case hi_ => kernel_rfl)) | (go_simp; with_reducible rfl)))
  refine pur_ 5 (some 10) rfl rfl (any_of HT_.out (by kernel_rfl)) ?_
  refine pur_ 6 (some 11) rfl rfl (any_of HT_.out (by kernel_rfl)) ?_
  refine pur_ 7 (some 12) rfl rfl (any_of HT_.out (by kernel_rfl)) ?_
  refine pur_ 9 (some 14) rfl rfl (any_of HT_.out (by kernel_rfl)) ?_
  refine pur_ 13 (some 18) rfl rfl (any_of HT_.out (by kernel_rfl)) ?_
  refine tak_ 8 (some 13) rfl rfl (take_ofW HT_.out HW_.out (by kernel_rfl)) hHeld ?_ (by rintro w' ⟨s0, s1, s2, s3, s4, s5, s6, s7, s8, s9, s10, s11⟩; (first | (refine load_cells_12 (ty := 47) (x := .tmp 2) (g := B1) ?hlo_ ?hx_ Try.underlying47 ?hd_ ?hi_ s0 s1 s2 s3 s4 s5 s6 s7 s8 s9 s10 s11; (case hlo_ => rfl); (case hx_ => rfl); (case hd_ => rfl); (case hi_ => kernel_rfl)) | (go_simp; with_reducible rfl)))
  refine tak_ 10 (some 15) rfl rfl (take_ofW HT_.out HW_.out (by kernel_rfl)) hHeld ?_ (by rintro w' ⟨s0, s1, s2, s3, s4, s5, s6, s7, s8, s9, s10, s11⟩; (first | (refine load_cells_12 (ty := 47) (x := .tmp 2) (g := B1) ?hlo_ ?hx_ Try.underlying47 ?hd_ ?hi_ s0 s1 s2 s3 s4 s5 s6 s7 s8 s9 s10 s11; (case hlo_ => rfl); (case hx_ => rfl); (case hd_ => rfl); (case hi_ => kernel_rfl)) | (go_simp; with_reducible rfl)))
  refine oon_ 11 (some 16) rfl rfl (one_of HT_.out (by kernel_rfl)) (fun K hK => ?_)
  refine gos_ Try.func21 (round_machine_honest.calls k B4 B9 Ba Bb Bc Bd Be Bf Bg Bh _ _ B2 _ _ B3 _ _ (Kd.C_below Bn.out HB.out) Bo.out (Kd.C_below Br.out HB.out) Bs.out A4.out) ?_
  rintro e w8 ⟨v403, rfl, Bw, hb⟩
  refine ⟨_, rfl, ?_⟩
  have Bi := am_ (Kd.R_lower Bw (below_size HB.out))
  replace B0 := bkb_ B0 hb
  replace HB := bst_ HB hb
  (try clear hb)
  (try clear hb2)
  (try clear hk)
  (try clear hi)
  (try clear Bw)
  obtain ⟨D2, D3, Bx⟩ := Kd.R_slice Bi.out
  (first | subst Bx | (injection Bx with f1_ f2_ f3_; have D0 := f1_.symm; have D1 := f3_.symm; clear f1_ f2_ f3_; subst D0; subst D1))
  refine hK.out _ _ (cells_12 B0.out) (fun hHeld => ?_)
  clear hK K
  refine nor_ 16 ?_
  refine oon_ 12 (some 17) rfl rfl (one_of HT_.out (by kernel_rfl)) (fun K hK => ?_)
  refine gos_ Try.func20 (roster_Mark.calls k B4 B9 Ba Bb Bc Bd Be Bf Bg Bh _ _ B2 a1 _ _ Bv _ _ (Kd.C_below Bn.out HB.out) Bo.out (Kd.R_reads' Bi.out).2.2 (Kd.R_reads' Bi.out).2.1 A5.out) ?_
  rintro e w10 ⟨rfl, hb⟩
  refine ⟨_, rfl, ?_⟩
  replace Bi := am_ (Kd.R_below Bi.out hb)
  replace B0 := bkb_ B0 hb
  replace HB := bst_ HB hb
  (try clear hb)
  (try clear hb2)
  (try clear hk)
  (try clear hi)
  refine hK.out _ _ (cells_12 B0.out) (fun hHeld => ?_)
  clear hK K
  refine nor_ 17 ?_
  refine pur_ 14 (some 19) rfl rfl (any_of HT_.out (by kernel_rfl)) ?_
  refine pur_ 15 (some 20) rfl rfl (any_of HT_.out (by kernel_rfl)) ?_
  refine pur_ 16 (some 4) rfl rfl (any_of HT_.out (by kernel_rfl)) ?_
  refine done_ (done_of HT_.out (by kernel_rfl)) ?_
  try go_wp2
  go_ret
  exact ⟨by first | rfl | (simp [*] <;> rfl), by repeat (first | (with_reducible first | exact HB.out | apply ba_ | apply bn_ | apply bd_ | refine bs_ ?_ Bq.out) | exact HB.out)⟩
 ·rw [if_neg c3] at H
  have Bt : ((a1.size : Int) == B4) = false := beq_eq_false_iff_ne.mpr c3
  have Bu : ((a1.size : Int) != B4) = true := bne_iff_ne.mpr c3
  obtain rfl := Option.some.inj H
  go_enter Try.func35, Try.ntmps35
  try go_wp2_with (first | ((with_reducible refine gate_load (t := 47) (x := .tmp 2) rfl ?_); refine lrg_ 47 (.tmp 2) B1 47 (by exact B0.out) Try.underlying47 ?_) | ((with_reducible refine gate_dst (N := 2) rfl ?_); refine bxe_ 2 47 #[.int .i64 B4, .int .i64 B9, .int .i64 Ba, .int .i64 Bb, .int .i64 Bc, .int .i64 Bd, .int .i64 Be, .int .i64 Bf, .int .i64 Bg, .int .i64 Bh, .slice B5 B2.length B6, .slice B7 B3.length B8] ?_; intro B1 hg w11 hbox hb; have B0 := am_ (hbox); have Bp := gwk_ HB hg; have Bq := Bp; replace HB := bst_ HB hb; clear hb hbox hg))
  replace B0 := am_ (blk_drew B0.out)
  replace HB := am_ (below_drew1 HB.out)
  refine start_ (n := 17) (S := fun w' => ce_ w' B1 0 (.int .i64 B4) ∧ ce_ w' B1 1 (.int .i64 B9) ∧ ce_ w' B1 2 (.int .i64 Ba) ∧ ce_ w' B1 3 (.int .i64 Bb) ∧ ce_ w' B1 4 (.int .i64 Bc) ∧ ce_ w' B1 5 (.int .i64 Bd) ∧ ce_ w' B1 6 (.int .i64 Be) ∧ ce_ w' B1 7 (.int .i64 Bf) ∧ ce_ w' B1 8 (.int .i64 Bg) ∧ ce_ w' B1 9 (.int .i64 Bh) ∧ ce_ w' B1 10 (.slice B5 B2.length B6) ∧ ce_ w' B1 11 (.slice B7 B3.length B8)) (ds := []) #[false, false, false, false, false, false, false, false, false, false, false, false, false, false, false, false, false] (by kernel_rfl) rfl rfl ⟨(blk_cell B0.out 0).trans rfl, (blk_cell B0.out 1).trans rfl, (blk_cell B0.out 2).trans rfl, (blk_cell B0.out 3).trans rfl, (blk_cell B0.out 4).trans rfl, (blk_cell B0.out 5).trans rfl, (blk_cell B0.out 6).trans rfl, (blk_cell B0.out 7).trans rfl, (blk_cell B0.out 8).trans rfl, (blk_cell B0.out 9).trans rfl, (blk_cell B0.out 10).trans rfl, (blk_cell B0.out 11).trans rfl⟩ (fun hHeld => ?_); refine with_tabW round_machine_members.tab1 round_machine_members.bits1 (fun HT_ HW_ => ?_)
  generalize w11.drew = w12 at B0 HB hHeld ⊢
  refine pur_ 0 (some 5) rfl rfl (any_of HT_.out (by kernel_rfl)) ?_
  refine pur_ 1 (some 6) rfl rfl (any_of HT_.out (by kernel_rfl)) ?_
  refine pur_ 2 (some 7) rfl rfl (any_of HT_.out (by kernel_rfl)) ?_
  refine pur_ 3 (some 8) rfl rfl (any_of HT_.out (by kernel_rfl)) ?_
  refine tak_ 4 (some 9) rfl rfl (take_ofW HT_.out HW_.out (by kernel_rfl)) hHeld ?_ (by rintro w' ⟨s0, s1, s2, s3, s4, s5, s6, s7, s8, s9, s10, s11⟩; (first | (refine load_cells_12 (ty := 47) (x := .tmp 2) (g := B1) ?hlo_ ?hx_ Try.underlying47 ?hd_ ?hi_ s0 s1 s2 s3 s4 s5 s6 s7 s8 s9 s10 s11; (case hlo_ => rfl); (case hx_ => rfl); (case hd_ => rfl); (case hi_ => kernel_rfl)) | (go_simp; with_reducible rfl)))
  refine pur_ 5 (some 10) rfl rfl (any_of HT_.out (by kernel_rfl)) ?_
  refine pur_ 6 (some 11) rfl rfl (any_of HT_.out (by kernel_rfl)) ?_
  refine puu_ 7 (some 12) rfl rfl (any_of HT_.out (by kernel_rfl)) ?_
  refine puu_ 8 (some 13) rfl rfl (any_of HT_.out (by kernel_rfl)) ?_
  refine puu_ 9 (some 14) rfl rfl (any_of HT_.out (by kernel_rfl)) ?_
  refine puu_ 10 (some 15) rfl rfl (any_of HT_.out (by kernel_rfl)) ?_
  refine puu_ 11 (some 16) rfl rfl (any_of HT_.out (by kernel_rfl)) ?_
  refine puu_ 12 (some 17) rfl rfl (any_of HT_.out (by kernel_rfl)) ?_
  refine puu_ 13 (some 18) rfl rfl (any_of HT_.out (by kernel_rfl)) ?_
  refine puu_ 14 (some 19) rfl rfl (any_of HT_.out (by kernel_rfl)) ?_
  refine pur_ 15 (some 20) rfl rfl (any_of HT_.out (by kernel_rfl)) ?_
  refine pur_ 16 (some 4) rfl rfl (any_of HT_.out (by kernel_rfl)) ?_
  refine done_ (done_of HT_.out (by kernel_rfl)) ?_
  try go_wp2
  go_ret
  exact ⟨by first | rfl | (simp [*] <;> rfl), by repeat (first | (with_reducible first | exact HB.out | apply ba_ | apply bn_ | apply bd_ | refine bs_ ?_ Bq.out) | exact HB.out)⟩
end Go.Proofs.Ytdnccjlfongdeaa.Gn
