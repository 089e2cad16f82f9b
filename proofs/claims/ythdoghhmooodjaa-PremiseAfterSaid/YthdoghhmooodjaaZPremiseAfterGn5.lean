import Derived.Test.YthdoghhmooodjaaZPremiseAfterGn0
import Derived.Test.YthdoghhmooodjaaZPremiseAfterGn1
import Derived.Test.YthdoghhmooodjaaZPremiseAfterGn4
namespace Go.Proofs.Ythdoghhmooodjaa.Gn
open Go.RowKit Go.Proofs.YthdoghhmooodjaaW.PrintWords Go.Proofs.YthdoghhmooodjaaW.PrintLast Go.Proofs.YthdoghhmooodjaaW.PrintMore
attribute [local go_sem] max2_int min2_int max_two min_two max_three min_three max_four min_four   -- for this text's walks alone
set_option linter.unusedVariables false
set_option linter.unusedSimpArgs false
def bound_sound_ends.f (B4 B5 B1 B2 B3 B6 B7 B8 B9 Ba : Int) (B0 : List Int) (Bb : Int) : Option (Bool) := (bound_plain_last.f B4 B5 B1 B2 B3 B6 B7 B8 B9 Ba B0).bind fun Bc => ((bound_plain_slowest.f B4 B5 B1 B2 B3 B6 B7 B8 B9 Ba B0).bind fun Bd => (some (decide ((wrap64 ((wrap64 (Bc + (wrap64 (B1 * B3)))) + Bb)) ≤ (wrap64 ((wrap64 (B2 - 1)) * Bd))))))
def bound_sound_ends.T1 : Bool × List (List Nat × List Nat) := (true, [([], []), ([0], [0]), ([1], [1]), ([], []), ([3], [3]), ([4], [4]), ([5], [5]), ([], []), ([7], [7]), ([8], [8]), ([9], [9]), ([6, 10], [6, 10]), ([2, 11], [2, 11]), ([], []), ([13], [13]), ([12, 14], [12, 14]), ([], []), ([16], [16]), ([17], [17]), ([18], [18]), ([19], [19]), ([], []), ([21], [21]), ([22, 2], [22]), ([20, 23], [20, 23]), ([15, 24], [15, 24]), ([25, 23, 0, 1, 2, 3, 4, 5, 6, 7, 8, 9, 10, 11, 12, 13, 14, 15, 16, 17, 18, 19, 20, 21, 22, 23, 24, 25], [25])])
def bound_sound_ends.B1 : List Nat := [0, 1, 3, 0, 8, 24, 56, 0, 128, 384, 896, 2040, 4095, 0, 8192, 32767, 0, 65536, 196608, 458752, 983040, 0, 2097152, 6291463, 16711687, 33554431, 67108863]
theorem bound_sound_ends.tab1 : rtab .any (opsOf Try.f65 1) = bound_sound_ends.T1 := by kernel_rfl
theorem bound_sound_ends.bits1 : waitsOk bound_sound_ends.T1.2 bound_sound_ends.B1 = true := by kernel_rfl
set_option maxHeartbeats 8000000 in
set_option maxRecDepth 100000 in
theorem bound_sound_ends.calls (B6 B7 B8 B9 Ba Bb Bc Bd Be Bf : Int) (B3 : Option Addr) (B4 : Nat) (B2 : List Int) (B5 : Int) (r : Bool) (w : World) (Bg : Kd.C (Kd.int .i64) w B3 B2.length B2) (Bh : B2.length ≤ B4) (h : bound_sound_ends.f B6 B7 B8 B9 Ba Bb Bc Bd Be Bf B2 B5 = some r) :
  Calls Try.prog 65 #[.agg #[.int .i64 B6, .int .i64 B7, .int .i64 B8, .int .i64 B9, .int .i64 Ba, .int .i64 Bb, .int .i64 Bc, .int .i64 Bd, .int .i64 Be, .int .i64 Bf, .slice B3 B2.length B4, .int .i64 B5]] w fun e w' => e = .returned (.bool r) ∧ Below w.heap.size w w' := by
 have Bm := Try.underlying68
 have Bi := am_ Bg
 have Bj := am_ Bh
 clear Bg Bh
 have HB := am_ (Below.refl w.heap.size w)
 have H := h
 unfold bound_sound_ends.f at H
 clear h
 obtain ⟨Bn, A2, H⟩ := bes_ H
 try dsimp only at H
 obtain ⟨Bo, A3, H⟩ := bes_ H
 try dsimp only at H
 obtain rfl := Option.some.inj H
 go_enter Try.func65, Try.ntmps65
 try go_wp2_with (first | ((with_reducible refine gate_load (t := 72) (x := .tmp 1) rfl ?_); refine lrg_ 72 (.tmp 1) B1 72 (by exact B0.out) Try.underlying72 ?_) | ((with_reducible refine gate_dst (N := 1) rfl ?_); refine bxe_ 1 72 #[.int .i64 B6, .int .i64 B7, .int .i64 B8, .int .i64 B9, .int .i64 Ba, .int .i64 Bb, .int .i64 Bc, .int .i64 Bd, .int .i64 Be, .int .i64 Bf, .slice B3 B2.length B4, .int .i64 B5] ?_; intro B1 hg w4 hbox hb; have B0 := am_ (hbox); have Bk := gwk_ HB hg; have Bl := Bk; replace HB := bst_ HB hb; clear hb hbox hg))
 replace B0 := am_ (blk_drew B0.out)
 replace HB := am_ (below_drew1 HB.out)
 refine start_ (n := 27) (S := fun w' => ce_ w' B1 0 (.int .i64 B6) ∧ ce_ w' B1 1 (.int .i64 B7) ∧ ce_ w' B1 2 (.int .i64 B8) ∧ ce_ w' B1 3 (.int .i64 B9) ∧ ce_ w' B1 4 (.int .i64 Ba) ∧ ce_ w' B1 5 (.int .i64 Bb) ∧ ce_ w' B1 6 (.int .i64 Bc) ∧ ce_ w' B1 7 (.int .i64 Bd) ∧ ce_ w' B1 8 (.int .i64 Be) ∧ ce_ w' B1 9 (.int .i64 Bf) ∧ ce_ w' B1 10 (.slice B3 B2.length B4) ∧ ce_ w' B1 11 (.int .i64 B5)) (ds := []) #[false, false, false, false, false, false, false, false, false, false, false, false, false, false, false, false, false, false, false, false, false, false, false, false, false, false, false] (by kernel_rfl) rfl rfl ⟨(blk_cell B0.out 0).trans rfl, (blk_cell B0.out 1).trans rfl, (blk_cell B0.out 2).trans rfl, (blk_cell B0.out 3).trans rfl, (blk_cell B0.out 4).trans rfl, (blk_cell B0.out 5).trans rfl, (blk_cell B0.out 6).trans rfl, (blk_cell B0.out 7).trans rfl, (blk_cell B0.out 8).trans rfl, (blk_cell B0.out 9).trans rfl, (blk_cell B0.out 10).trans rfl, (blk_cell B0.out 11).trans rfl⟩ (fun hHeld => ?_); refine with_tabW bound_sound_ends.tab1 bound_sound_ends.bits1 (fun HT_ HW_ => ?_)
 generalize w4.drew = w5 at B0 HB hHeld ⊢
 refine pur_ 0 (some 3) rfl rfl (any_of HT_.out (by kernel_rfl)) ?_
 refine pur_ 3 (some 6) rfl rfl (any_of HT_.out (by kernel_rfl)) ?_
 refine pur_ 4 (some 7) rfl rfl (any_of HT_.out (by kernel_rfl)) ?_
 refine pur_ 5 (some 8) rfl rfl (any_of HT_.out (by kernel_rfl)) ?_
 refine pur_ 7 (some 10) rfl rfl (any_of HT_.out (by kernel_rfl)) ?_
 refine pur_ 8 (some 11) rfl rfl (any_of HT_.out (by kernel_rfl)) ?_
 refine pur_ 9 (some 12) rfl rfl (any_of HT_.out (by kernel_rfl)) ?_
 refine pur_ 13 (some 16) rfl rfl (any_of HT_.out (by kernel_rfl)) ?_
 refine pur_ 16 (some 19) rfl rfl (any_of HT_.out (by kernel_rfl)) ?_
 refine pur_ 17 (some 20) rfl rfl (any_of HT_.out (by kernel_rfl)) ?_
 refine pur_ 18 (some 21) rfl rfl (any_of HT_.out (by kernel_rfl)) ?_
 refine pur_ 21 (some 24) rfl rfl (any_of HT_.out (by kernel_rfl)) ?_
 refine tak_ 1 (some 4) rfl rfl (take_ofW HT_.out HW_.out (by kernel_rfl)) hHeld ?_ (by rintro w' ⟨s0, s1, s2, s3, s4, s5, s6, s7, s8, s9, s10, s11⟩; (first | (refine load_cells_12 (ty := 72) (x := .tmp 1) (g := B1) ?hlo_ ?hx_ Try.underlying72 ?hd_ ?hi_ s0 s1 s2 s3 s4 s5 s6 s7 s8 s9 s10 s11; (case hlo_ => rfl); (case hx_ => rfl); (case hd_ => rfl); (case hi_ => kernel_rfl)) | (go_simp; with_reducible rfl)))
 refine tak_ 6 (some 9) rfl rfl (take_ofW HT_.out HW_.out (by kernel_rfl)) hHeld ?_ (by rintro w' ⟨s0, s1, s2, s3, s4, s5, s6, s7, s8, s9, s10, s11⟩; (first | (refine load_cells_12 (ty := 72) (x := .tmp 1) (g := B1) ?hlo_ ?hx_ Try.underlying72 ?hd_ ?hi_ s0 s1 s2 s3 s4 s5 s6 s7 s8 s9 s10 s11; (case hlo_ => rfl); (case hx_ => rfl); (case hd_ => rfl); (case hi_ => kernel_rfl)) | (go_simp; with_reducible rfl)))
 refine tak_ 10 (some 13) rfl rfl (take_ofW HT_.out HW_.out (by kernel_rfl)) hHeld ?_ (by rintro w' ⟨s0, s1, s2, s3, s4, s5, s6, s7, s8, s9, s10, s11⟩; (first | (refine load_cells_12 (ty := 72) (x := .tmp 1) (g := B1) ?hlo_ ?hx_ Try.underlying72 ?hd_ ?hi_ s0 s1 s2 s3 s4 s5 s6 s7 s8 s9 s10 s11; (case hlo_ => rfl); (case hx_ => rfl); (case hd_ => rfl); (case hi_ => kernel_rfl)) | (go_simp; with_reducible rfl)))
 refine pur_ 11 (some 14) rfl rfl (any_of HT_.out (by kernel_rfl)) ?_
 refine tak_ 14 (some 17) rfl rfl (take_ofW HT_.out HW_.out (by kernel_rfl)) hHeld ?_ (by rintro w' ⟨s0, s1, s2, s3, s4, s5, s6, s7, s8, s9, s10, s11⟩; (first | (refine load_cells_12 (ty := 72) (x := .tmp 1) (g := B1) ?hlo_ ?hx_ Try.underlying72 ?hd_ ?hi_ s0 s1 s2 s3 s4 s5 s6 s7 s8 s9 s10 s11; (case hlo_ => rfl); (case hx_ => rfl); (case hd_ => rfl); (case hi_ => kernel_rfl)) | (go_simp; with_reducible rfl)))
 refine tak_ 19 (some 22) rfl rfl (take_ofW HT_.out HW_.out (by kernel_rfl)) hHeld ?_ (by rintro w' ⟨s0, s1, s2, s3, s4, s5, s6, s7, s8, s9, s10, s11⟩; (first | (refine load_cells_12 (ty := 72) (x := .tmp 1) (g := B1) ?hlo_ ?hx_ Try.underlying72 ?hd_ ?hi_ s0 s1 s2 s3 s4 s5 s6 s7 s8 s9 s10 s11; (case hlo_ => rfl); (case hx_ => rfl); (case hd_ => rfl); (case hi_ => kernel_rfl)) | (go_simp; with_reducible rfl)))
 refine pur_ 20 (some 23) rfl rfl (any_of HT_.out (by kernel_rfl)) ?_
 refine tak_ 22 (some 25) rfl rfl (take_ofW HT_.out HW_.out (by kernel_rfl)) hHeld ?_ (by rintro w' ⟨s0, s1, s2, s3, s4, s5, s6, s7, s8, s9, s10, s11⟩; (first | (refine load_cells_12 (ty := 72) (x := .tmp 1) (g := B1) ?hlo_ ?hx_ Try.underlying72 ?hd_ ?hi_ s0 s1 s2 s3 s4 s5 s6 s7 s8 s9 s10 s11; (case hlo_ => rfl); (case hx_ => rfl); (case hd_ => rfl); (case hi_ => kernel_rfl)) | (go_simp; with_reducible rfl)))
 refine oon_ 2 (some 5) rfl rfl (one_of HT_.out (by kernel_rfl)) (fun K hK => ?_)
 refine gos_ Try.func94 (bound_plain_last.calls B6 B7 B8 B9 Ba Bb Bc Bd Be Bf _ _ B2 _ _ (Kd.C_below Bi.out HB.out) Bj.out A2.out) ?_
 rintro e w6 ⟨rfl, hb⟩
 refine ⟨_, rfl, ?_⟩
 replace B0 := bkb_ B0 hb
 replace HB := bst_ HB hb
 (try clear hb)
 (try clear hb2)
 (try clear hk)
 (try clear hi)
 refine hK.out _ _ (cells_12 B0.out) (fun hHeld => ?_)
 clear hK K
 refine nor_ 5 ?_
 refine pur_ 12 (some 15) rfl rfl (any_of HT_.out (by kernel_rfl)) ?_
 refine pur_ 15 (some 18) rfl rfl (any_of HT_.out (by kernel_rfl)) ?_
 refine oon_ 23 (some 26) rfl rfl (one_of HT_.out (by kernel_rfl)) (fun K hK => ?_)
 refine gos_ Try.func95 (bound_plain_slowest.calls B6 B7 B8 B9 Ba Bb Bc Bd Be Bf _ _ B2 _ _ (Kd.C_below Bi.out HB.out) Bj.out A3.out) ?_
 rintro e w7 ⟨rfl, hb⟩
 refine ⟨_, rfl, ?_⟩
 replace B0 := bkb_ B0 hb
 replace HB := bst_ HB hb
 (try clear hb)
 (try clear hb2)
 (try clear hk)
 (try clear hi)
 refine hK.out _ _ (cells_12 B0.out) (fun hHeld => ?_)
 clear hK K
 refine nor_ 26 ?_
 refine pur_ 24 (some 27) rfl rfl (any_of HT_.out (by kernel_rfl)) ?_
 refine pur_ 25 (some 28) rfl rfl (any_of HT_.out (by kernel_rfl)) ?_
 refine pur_ 26 (some 2) rfl rfl (any_of HT_.out (by kernel_rfl)) ?_
 refine done_ (done_of HT_.out (by kernel_rfl)) ?_
 try go_wp2
 go_ret
 exact ⟨by first | rfl | (simp [*] <;> rfl), by repeat (first | (with_reducible first | exact HB.out | apply ba_ | apply bn_ | apply bd_ | refine bs_ ?_ Bl.out) | exact HB.out)⟩
def bound_plain_fastest.f (B3 B4 B5 B6 B0 B1 B7 B8 B9 Ba : Int) (B2 : List Int) : Option (Int) := some (wrap64 (B0 + B1))
set_option maxHeartbeats 8000000 in
set_option maxRecDepth 100000 in
theorem bound_plain_fastest.calls (B8 B9 Ba Bb B5 B6 Bc Bd Be Bf : Int) (B1 : Option Addr) (B2 : Nat) (B0 : List Int) (r : Int) (w : World) (B3 : Kd.C (Kd.int .i64) w B1 B0.length B0) (B4 : B0.length ≤ B2) (h : bound_plain_fastest.f B8 B9 Ba Bb B5 B6 Bc Bd Be Bf B0 = some r) :
  Calls Try.prog 96 #[.agg #[.int .i64 B8, .int .i64 B9, .int .i64 Ba, .int .i64 Bb, .int .i64 B5, .int .i64 B6, .int .i64 Bc, .int .i64 Bd, .int .i64 Be, .int .i64 Bf, .slice B1 B0.length B2]] w fun e w' => e = .returned (.int .i64 r) ∧ Below w.heap.size w w' := by
 have Bl := Try.underlying68
 have Bi := am_ B3
 have Bj := am_ B4
 clear B3 B4
 have HB := am_ (Below.refl w.heap.size w)
 have H : (some (wrap64 (B5 + B6))) = some r := h
 clear h
 obtain rfl := Option.some.inj H
 go_enter Try.func96, Try.ntmps96
 go_wp2_with (first | ((with_reducible refine gate_dst (N := 1) rfl ?_); refine bxe_ 1 68 #[.int .i64 B8, .int .i64 B9, .int .i64 Ba, .int .i64 Bb, .int .i64 B5, .int .i64 B6, .int .i64 Bc, .int .i64 Bd, .int .i64 Be, .int .i64 Bf, .slice B1 B0.length B2] ?_; intro Bk hg w2 hbox hb; have B7 := am_ (hbox); have Bg := gwk_ HB hg; have Bh := Bg; replace HB := bst_ HB hb; clear hb hbox hg; have Bm := cells_11 B7.out; have Bn := frozen_11 B7.out))
 go_ret
 exact ⟨by first | rfl | (simp [*] <;> rfl), by repeat (first | (with_reducible first | exact HB.out | apply ba_ | apply bn_ | apply bd_ | refine bs_ ?_ Bh.out) | exact HB.out)⟩
def bound_sound_turns.f (B2 B3 B4 B0 B5 B6 B7 B8 B9 Ba : Int) (B1 : List Int) (Bc : Int) : Option (Bool) := (bound_plain_fastest.f B2 B3 B4 B0 B5 B6 B7 B8 B9 Ba B1).bind fun Bb => (some (decide ((wrap64 (B0 * Bb)) < 32768)))
def bound_sound_turns.T1 : Bool × List (List Nat × List Nat) := (true, [([], []), ([0], [0]), ([1], [1]), ([2], [2]), ([], []), ([4], [4]), ([5], [5]), ([3, 6], [3, 6]), ([7], [7]), ([8, 6, 0, 1, 2, 3, 4, 5, 6, 7, 8], [8])])
def bound_sound_turns.B1 : List Nat := [0, 1, 3, 7, 0, 16, 48, 127, 255, 511]
theorem bound_sound_turns.tab1 : rtab .any (opsOf Try.f66 1) = bound_sound_turns.T1 := by kernel_rfl
theorem bound_sound_turns.bits1 : waitsOk bound_sound_turns.T1.2 bound_sound_turns.B1 = true := by kernel_rfl
set_option maxHeartbeats 8000000 in
set_option maxRecDepth 100000 in
theorem bound_sound_turns.calls (B6 B7 B8 B9 Ba Bb Bc Bd Be Bf : Int) (B3 : Option Addr) (B4 : Nat) (B2 : List Int) (B5 : Int) (r : Bool) (w : World) (Bg : Kd.C (Kd.int .i64) w B3 B2.length B2) (Bh : B2.length ≤ B4) (h : bound_sound_turns.f B6 B7 B8 B9 Ba Bb Bc Bd Be Bf B2 B5 = some r) :
  Calls Try.prog 66 #[.agg #[.int .i64 B6, .int .i64 B7, .int .i64 B8, .int .i64 B9, .int .i64 Ba, .int .i64 Bb, .int .i64 Bc, .int .i64 Bd, .int .i64 Be, .int .i64 Bf, .slice B3 B2.length B4, .int .i64 B5]] w fun e w' => e = .returned (.bool r) ∧ Below w.heap.size w w' := by
 have Bm := Try.underlying68
 have Bi := am_ Bg
 have Bj := am_ Bh
 clear Bg Bh
 have HB := am_ (Below.refl w.heap.size w)
 have H := h
 unfold bound_sound_turns.f at H
 clear h
 obtain ⟨Bn, A2, H⟩ := bes_ H
 try dsimp only at H
 obtain rfl := Option.some.inj H
 go_enter Try.func66, Try.ntmps66
 try go_wp2_with (first | ((with_reducible refine gate_load (t := 72) (x := .tmp 1) rfl ?_); refine lrg_ 72 (.tmp 1) B1 72 (by exact B0.out) Try.underlying72 ?_) | ((with_reducible refine gate_dst (N := 1) rfl ?_); refine bxe_ 1 72 #[.int .i64 B6, .int .i64 B7, .int .i64 B8, .int .i64 B9, .int .i64 Ba, .int .i64 Bb, .int .i64 Bc, .int .i64 Bd, .int .i64 Be, .int .i64 Bf, .slice B3 B2.length B4, .int .i64 B5] ?_; intro B1 hg w3 hbox hb; have B0 := am_ (hbox); have Bk := gwk_ HB hg; have Bl := Bk; replace HB := bst_ HB hb; clear hb hbox hg))
 replace B0 := am_ (blk_drew B0.out)
 replace HB := am_ (below_drew1 HB.out)
 refine start_ (n := 10) (S := fun w' => ce_ w' B1 0 (.int .i64 B6) ∧ ce_ w' B1 1 (.int .i64 B7) ∧ ce_ w' B1 2 (.int .i64 B8) ∧ ce_ w' B1 3 (.int .i64 B9) ∧ ce_ w' B1 4 (.int .i64 Ba) ∧ ce_ w' B1 5 (.int .i64 Bb) ∧ ce_ w' B1 6 (.int .i64 Bc) ∧ ce_ w' B1 7 (.int .i64 Bd) ∧ ce_ w' B1 8 (.int .i64 Be) ∧ ce_ w' B1 9 (.int .i64 Bf) ∧ ce_ w' B1 10 (.slice B3 B2.length B4) ∧ ce_ w' B1 11 (.int .i64 B5)) (ds := []) #[false, false, false, false, false, false, false, false, false, false] (by kernel_rfl) rfl rfl ⟨(blk_cell B0.out 0).trans rfl, (blk_cell B0.out 1).trans rfl, (blk_cell B0.out 2).trans rfl, (blk_cell B0.out 3).trans rfl, (blk_cell B0.out 4).trans rfl, (blk_cell B0.out 5).trans rfl, (blk_cell B0.out 6).trans rfl, (blk_cell B0.out 7).trans rfl, (blk_cell B0.out 8).trans rfl, (blk_cell B0.out 9).trans rfl, (blk_cell B0.out 10).trans rfl, (blk_cell B0.out 11).trans rfl⟩ (fun hHeld => ?_); refine with_tabW bound_sound_turns.tab1 bound_sound_turns.bits1 (fun HT_ HW_ => ?_)
 generalize w3.drew = w4 at B0 HB hHeld ⊢
 refine pur_ 0 (some 3) rfl rfl (any_of HT_.out (by kernel_rfl)) ?_
 refine pur_ 1 (some 4) rfl rfl (any_of HT_.out (by kernel_rfl)) ?_
 refine pur_ 2 (some 5) rfl rfl (any_of HT_.out (by kernel_rfl)) ?_
 refine pur_ 4 (some 7) rfl rfl (any_of HT_.out (by kernel_rfl)) ?_
 refine tak_ 3 (some 6) rfl rfl (take_ofW HT_.out HW_.out (by kernel_rfl)) hHeld ?_ (by rintro w' ⟨s0, s1, s2, s3, s4, s5, s6, s7, s8, s9, s10, s11⟩; (first | (refine load_cells_12 (ty := 72) (x := .tmp 1) (g := B1) ?hlo_ ?hx_ Try.underlying72 ?hd_ ?hi_ s0 s1 s2 s3 s4 s5 s6 s7 s8 s9 s10 s11; (case hlo_ => rfl); (case hx_ => rfl); (case hd_ => rfl); (case hi_ => kernel_rfl)) | (go_simp; with_reducible rfl)))
 refine tak_ 5 (some 8) rfl rfl (take_ofW HT_.out HW_.out (by kernel_rfl)) hHeld ?_ (by rintro w' ⟨s0, s1, s2, s3, s4, s5, s6, s7, s8, s9, s10, s11⟩; (first | (refine load_cells_12 (ty := 72) (x := .tmp 1) (g := B1) ?hlo_ ?hx_ Try.underlying72 ?hd_ ?hi_ s0 s1 s2 s3 s4 s5 s6 s7 s8 s9 s10 s11; (case hlo_ => rfl); (case hx_ => rfl); (case hd_ => rfl); (case hi_ => kernel_rfl)) | (go_simp; with_reducible rfl)))
 refine oon_ 6 (some 9) rfl rfl (one_of HT_.out (by kernel_rfl)) (fun K hK => ?_)
 refine gos_ Try.func96 (bound_plain_fastest.calls B6 B7 B8 B9 Ba Bb Bc Bd Be Bf _ _ B2 _ _ (Kd.C_below Bi.out HB.out) Bj.out A2.out) ?_
 rintro e w5 ⟨rfl, hb⟩
 refine ⟨_, rfl, ?_⟩
 replace B0 := bkb_ B0 hb
 replace HB := bst_ HB hb
 (try clear hb)
 (try clear hb2)
 (try clear hk)
 (try clear hi)
 refine hK.out _ _ (cells_12 B0.out) (fun hHeld => ?_)
 clear hK K
 refine nor_ 9 ?_
 refine pur_ 7 (some 10) rfl rfl (any_of HT_.out (by kernel_rfl)) ?_
 refine pur_ 8 (some 11) rfl rfl (any_of HT_.out (by kernel_rfl)) ?_
 refine pur_ 9 (some 2) rfl rfl (any_of HT_.out (by kernel_rfl)) ?_
 refine done_ (done_of HT_.out (by kernel_rfl)) ?_
 try go_wp2
 go_ret
 exact ⟨by first | rfl | (simp [*] <;> rfl), by repeat (first | (with_reducible first | exact HB.out | apply ba_ | apply bn_ | apply bd_ | refine bs_ ?_ Bl.out) | exact HB.out)⟩
end Go.Proofs.Ythdoghhmooodjaa.Gn
