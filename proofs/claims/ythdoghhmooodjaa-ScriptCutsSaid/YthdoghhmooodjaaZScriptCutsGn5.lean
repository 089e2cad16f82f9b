import Derived.Test.YthdoghhmooodjaaZScriptCutsGn0
import Derived.Test.YthdoghhmooodjaaZScriptCutsGn1
import Derived.Test.YthdoghhmooodjaaZScriptCutsGn4
namespace Go.Proofs.Ythdoghhmooodjaa.Gn
open Go.RowKit Go.Proofs.YthdoghhmooodjaaW.PrintWords Go.Proofs.YthdoghhmooodjaaW.PrintLast Go.Proofs.YthdoghhmooodjaaW.PrintMore
attribute [local go_sem] max2_int min2_int max_two min_two max_three min_three max_four min_four   -- for this text's walks alone
set_option linter.unusedVariables false
set_option linter.unusedSimpArgs false
def bound_sound_ends.f (a0_0 a0_1 a0_2 a0_3 a0_4 a0_5 a0_6 a0_7 a0_8 a0_9 : Int) (l0_10 : List Int) (a0_11 : Int) : Option (Bool) := (bound_plain_last.f a0_0 a0_1 a0_2 a0_3 a0_4 a0_5 a0_6 a0_7 a0_8 a0_9 l0_10).bind fun t402 => ((bound_plain_slowest.f a0_0 a0_1 a0_2 a0_3 a0_4 a0_5 a0_6 a0_7 a0_8 a0_9 l0_10).bind fun t403 => (some (decide ((wrap64 ((wrap64 (t402 + (wrap64 (a0_2 * a0_4)))) + a0_11)) ≤ (wrap64 ((wrap64 (a0_3 - 1)) * t403))))))
def bound_sound_ends.T1 : Bool × List (List Nat × List Nat) := (true, [([], []), ([0], [0]), ([1], [1]), ([], []), ([3], [3]), ([4], [4]), ([5], [5]), ([], []), ([7], [7]), ([8], [8]), ([9], [9]), ([6, 10], [6, 10]), ([2, 11], [2, 11]), ([], []), ([13], [13]), ([12, 14], [12, 14]), ([], []), ([16], [16]), ([17], [17]), ([18], [18]), ([19], [19]), ([], []), ([21], [21]), ([22, 2], [22]), ([20, 23], [20, 23]), ([15, 24], [15, 24]), ([25, 23, 0, 1, 2, 3, 4, 5, 6, 7, 8, 9, 10, 11, 12, 13, 14, 15, 16, 17, 18, 19, 20, 21, 22, 23, 24, 25], [25])])
def bound_sound_ends.B1 : List Nat := [0, 1, 3, 0, 8, 24, 56, 0, 128, 384, 896, 2040, 4095, 0, 8192, 32767, 0, 65536, 196608, 458752, 983040, 0, 2097152, 6291463, 16711687, 33554431, 67108863]
theorem bound_sound_ends.tab1 : rtab .any (opsOf Try.f65 1) = bound_sound_ends.T1 := by kernel_rfl
theorem bound_sound_ends.bits1 : waitsOk bound_sound_ends.T1.2 bound_sound_ends.B1 = true := by kernel_rfl
set_option maxHeartbeats 8000000 in
set_option maxRecDepth 100000 in
theorem bound_sound_ends.calls (a0_0 a0_1 a0_2 a0_3 a0_4 a0_5 a0_6 a0_7 a0_8 a0_9 : Int) (A0_10 : Option Addr) (c0_10 : Nat) (l0_10 : List Int) (a0_11 : Int) (r : Bool) (w : World) (hr0_10 : Kd.C (Kd.int .i64) w A0_10 l0_10.length l0_10) (hc0_10 : l0_10.length ≤ c0_10) (h : bound_sound_ends.f a0_0 a0_1 a0_2 a0_3 a0_4 a0_5 a0_6 a0_7 a0_8 a0_9 l0_10 a0_11 = some r) :
  Calls Try.prog 65 #[.agg #[.int .i64 a0_0, .int .i64 a0_1, .int .i64 a0_2, .int .i64 a0_3, .int .i64 a0_4, .int .i64 a0_5, .int .i64 a0_6, .int .i64 a0_7, .int .i64 a0_8, .int .i64 a0_9, .slice A0_10 l0_10.length c0_10, .int .i64 a0_11]] w fun e w' => e = .returned (.bool r) ∧ Below w.heap.size w w' := by
 have hu68 := Try.underlying68
 have HR0_10 := am_ hr0_10
 have HC0_10 := am_ hc0_10
 clear hr0_10 hc0_10
 have HB := am_ (Below.refl w.heap.size w)
 have H := h
 unfold bound_sound_ends.f at H
 clear h
 obtain ⟨t402, A2, H⟩ := bes_ H
 try dsimp only at H
 obtain ⟨t403, A3, H⟩ := bes_ H
 try dsimp only at H
 obtain rfl := Option.some.inj H
 go_enter Try.func65, Try.ntmps65
 try go_wp2_with (first | ((with_reducible refine gate_load (t := 72) (x := .tmp 1) rfl ?_); refine lrg_ 72 (.tmp 1) gb401 72 (by exact BK401.out) Try.underlying72 ?_) | ((with_reducible refine gate_dst (N := 1) rfl ?_); refine bxe_ 1 72 #[.int .i64 a0_0, .int .i64 a0_1, .int .i64 a0_2, .int .i64 a0_3, .int .i64 a0_4, .int .i64 a0_5, .int .i64 a0_6, .int .i64 a0_7, .int .i64 a0_8, .int .i64 a0_9, .slice A0_10 l0_10.length c0_10, .int .i64 a0_11] ?_; intro gb401 hg w4 hbox hb; have BK401 := am_ (hbox); have GW401 := gwk_ HB hg; have GE401 := GW401; replace HB := bst_ HB hb; clear hb hbox hg))
 replace BK401 := am_ (blk_drew BK401.out)
 replace HB := am_ (below_drew1 HB.out)
 refine start_ (n := 27) (S := fun w' => ce_ w' gb401 0 (.int .i64 a0_0) ∧ ce_ w' gb401 1 (.int .i64 a0_1) ∧ ce_ w' gb401 2 (.int .i64 a0_2) ∧ ce_ w' gb401 3 (.int .i64 a0_3) ∧ ce_ w' gb401 4 (.int .i64 a0_4) ∧ ce_ w' gb401 5 (.int .i64 a0_5) ∧ ce_ w' gb401 6 (.int .i64 a0_6) ∧ ce_ w' gb401 7 (.int .i64 a0_7) ∧ ce_ w' gb401 8 (.int .i64 a0_8) ∧ ce_ w' gb401 9 (.int .i64 a0_9) ∧ ce_ w' gb401 10 (.slice A0_10 l0_10.length c0_10) ∧ ce_ w' gb401 11 (.int .i64 a0_11)) (ds := []) #[false, false, false, false, false, false, false, false, false, false, false, false, false, false, false, false, false, false, false, false, false, false, false, false, false, false, false] (by kernel_rfl) rfl rfl ⟨(blk_cell BK401.out 0).trans rfl, (blk_cell BK401.out 1).trans rfl, (blk_cell BK401.out 2).trans rfl, (blk_cell BK401.out 3).trans rfl, (blk_cell BK401.out 4).trans rfl, (blk_cell BK401.out 5).trans rfl, (blk_cell BK401.out 6).trans rfl, (blk_cell BK401.out 7).trans rfl, (blk_cell BK401.out 8).trans rfl, (blk_cell BK401.out 9).trans rfl, (blk_cell BK401.out 10).trans rfl, (blk_cell BK401.out 11).trans rfl⟩ (fun hHeld => ?_); refine with_tabW bound_sound_ends.tab1 bound_sound_ends.bits1 (fun HT_ HW_ => ?_)
 generalize w4.drew = w5 at BK401 HB hHeld ⊢
 refine pur_ 0 (some 3) rfl rfl (any_of HT_.out (by kernel_rfl)) ?_
 refine pur_ 3 (some 6) rfl rfl (any_of HT_.out (by kernel_rfl)) ?_
 refine pur_ 4 (some 7) rfl rfl (any_of HT_.out (by kernel_rfl)) ?_
 refine pur_ 5 (some 8) rfl rfl (any_of HT_.out (by kernel_rfl)) ?_
 refine pur_ 7 (some 10) rfl rfl (any_of HT_.out (by kernel_rfl)) ?_
 refine pur_ 8 (some 11) rfl rfl (any_of HT_.out (by kernel_rfl)) ?_
 refine pur_ 9 (some 12) rfl rfl (any_of HT_.out (by kernel_rfl)) ?_
 refine pur_ 13 (some 16) rfl rfl (any_of HT_.out (by kernel_rfl)) ?_
 refine pur_ 16 (some 19) rfl rfl (any_of HT_.out (by kernel_rfl)) ?_
 refine pur_ 17 (some 20) rfl rfl (any_of HT_.out (by kernel_rfl)) ?_
 refine pur_ 18 (some 21) rfl rfl (any_of HT_.out (by kernel_rfl)) ?_
 refine pur_ 21 (some 24) rfl rfl (any_of HT_.out (by kernel_rfl)) ?_
 refine tak_ 1 (some 4) rfl rfl (take_ofW HT_.out HW_.out (by kernel_rfl)) hHeld ?_ (by rintro w' ⟨s0, s1, s2, s3, s4, s5, s6, s7, s8, s9, s10, s11⟩; (first | (refine load_cells_12 (ty := 72) (x := .tmp 1) (g := gb401) ?hlo_ ?hx_ Try.underlying72 ?hd_ ?hi_ s0 s1 s2 s3 s4 s5 s6 s7 s8 s9 s10 s11; (case hlo_ => rfl); (case hx_ => rfl); (case hd_ => rfl); (case hi_ => kernel_rfl)) | (go_simp; with_reducible rfl)))
 refine tak_ 6 (some 9) rfl rfl (take_ofW HT_.out HW_.out (by kernel_rfl)) hHeld ?_ (by rintro w' ⟨s0, s1, s2, s3, s4, s5, s6, s7, s8, s9, s10, s11⟩; (first | (refine load_cells_12 (ty := 72) (x := .tmp 1) (g := gb401) ?hlo_ ?hx_ Try.underlying72 ?hd_ ?hi_ s0 s1 s2 s3 s4 s5 s6 s7 s8 s9 s10 s11; (case hlo_ => rfl); (case hx_ => rfl); (case hd_ => rfl); (case hi_ => kernel_rfl)) | (go_simp; with_reducible rfl)))
 refine tak_ 10 (some 13) rfl rfl (take_ofW HT_.out HW_.out (by kernel_rfl)) hHeld ?_ (by rintro w' ⟨s0, s1, s2, s3, s4, s5, s6, s7, s8, s9, s10, s11⟩; (first | (refine load_cells_12 (ty := 72) (x := .tmp 1) (g := gb401) ?hlo_ ?hx_ Try.underlying72 ?hd_ ?hi_ s0 s1 s2 s3 s4 s5 s6 s7 s8 s9 s10 s11; (case hlo_ => rfl); (case hx_ => rfl); (case hd_ => rfl); (case hi_ => kernel_rfl)) | (go_simp; with_reducible rfl)))
 refine pur_ 11 (some 14) rfl rfl (any_of HT_.out (by kernel_rfl)) ?_
 refine tak_ 14 (some 17) rfl rfl (take_ofW HT_.out HW_.out (by kernel_rfl)) hHeld ?_ (by rintro w' ⟨s0, s1, s2, s3, s4, s5, s6, s7, s8, s9, s10, s11⟩; (first | (refine load_cells_12 (ty := 72) (x := .tmp 1) (g := gb401) ?hlo_ ?hx_ Try.underlying72 ?hd_ ?hi_ s0 s1 s2 s3 s4 s5 s6 s7 s8 s9 s10 s11; (case hlo_ => rfl); (case hx_ => rfl); (case hd_ => rfl); (case hi_ => kernel_rfl)) | (go_simp; with_reducible rfl)))
 refine tak_ 19 (some 22) rfl rfl (take_ofW HT_.out HW_.out (by kernel_rfl)) hHeld ?_ (by rintro w' ⟨s0, s1, s2, s3, s4, s5, s6, s7, s8, s9, s10, s11⟩; (first | (refine load_cells_12 (ty := 72) (x := .tmp 1) (g := gb401) ?hlo_ ?hx_ Try.underlying72 ?hd_ ?hi_ s0 s1 s2 s3 s4 s5 s6 s7 s8 s9 s10 s11; (case hlo_ => rfl); (case hx_ => rfl); (case hd_ => rfl); (case hi_ => kernel_rfl)) | (go_simp; with_reducible rfl)))
 refine pur_ 20 (some 23) rfl rfl (any_of HT_.out (by kernel_rfl)) ?_
 refine tak_ 22 (some 25) rfl rfl (take_ofW HT_.out HW_.out (by kernel_rfl)) hHeld ?_ (by rintro w' ⟨s0, s1, s2, s3, s4, s5, s6, s7, s8, s9, s10, s11⟩; (first | (refine load_cells_12 (ty := 72) (x := .tmp 1) (g := gb401) ?hlo_ ?hx_ Try.underlying72 ?hd_ ?hi_ s0 s1 s2 s3 s4 s5 s6 s7 s8 s9 s10 s11; (case hlo_ => rfl); (case hx_ => rfl); (case hd_ => rfl); (case hi_ => kernel_rfl)) | (go_simp; with_reducible rfl)))
 refine oon_ 2 (some 5) rfl rfl (one_of HT_.out (by kernel_rfl)) (fun K hK => ?_)
 refine gos_ Try.func94 (bound_plain_last.calls a0_0 a0_1 a0_2 a0_3 a0_4 a0_5 a0_6 a0_7 a0_8 a0_9 _ _ l0_10 _ _ (Kd.C_below HR0_10.out HB.out) HC0_10.out A2.out) ?_
 rintro e w6 ⟨rfl, hb⟩
 refine ⟨_, rfl, ?_⟩
 replace BK401 := bkb_ BK401 hb
 replace HB := bst_ HB hb
 (try clear hb)
 (try clear hb2)
 (try clear hk)
 (try clear hi)
 refine hK.out _ _ (cells_12 BK401.out) (fun hHeld => ?_)
 clear hK K
 refine nor_ 5 ?_
 refine pur_ 12 (some 15) rfl rfl (any_of HT_.out (by kernel_rfl)) ?_
 refine pur_ 15 (some 18) rfl rfl (any_of HT_.out (by kernel_rfl)) ?_
 refine oon_ 23 (some 26) rfl rfl (one_of HT_.out (by kernel_rfl)) (fun K hK => ?_)
 refine gos_ Try.func95 (bound_plain_slowest.calls a0_0 a0_1 a0_2 a0_3 a0_4 a0_5 a0_6 a0_7 a0_8 a0_9 _ _ l0_10 _ _ (Kd.C_below HR0_10.out HB.out) HC0_10.out A3.out) ?_
 rintro e w7 ⟨rfl, hb⟩
 refine ⟨_, rfl, ?_⟩
 replace BK401 := bkb_ BK401 hb
 replace HB := bst_ HB hb
 (try clear hb)
 (try clear hb2)
 (try clear hk)
 (try clear hi)
 refine hK.out _ _ (cells_12 BK401.out) (fun hHeld => ?_)
 clear hK K
 refine nor_ 26 ?_
 refine pur_ 24 (some 27) rfl rfl (any_of HT_.out (by kernel_rfl)) ?_
 refine pur_ 25 (some 28) rfl rfl (any_of HT_.out (by kernel_rfl)) ?_
 refine pur_ 26 (some 2) rfl rfl (any_of HT_.out (by kernel_rfl)) ?_
 refine done_ (done_of HT_.out (by kernel_rfl)) ?_
 try go_wp2
 go_ret
 exact ⟨by first | rfl | (simp [*] <;> rfl), by repeat (first | (with_reducible first | exact HB.out | apply ba_ | apply bn_ | apply bd_ | refine bs_ ?_ GE401.out) | exact HB.out)⟩
def bound_plain_fastest.f (a0_0 a0_1 a0_2 a0_3 a0_4 a0_5 a0_6 a0_7 a0_8 a0_9 : Int) (l0_10 : List Int) : Option (Int) := some (wrap64 (a0_4 + a0_5))
set_option maxHeartbeats 8000000 in
set_option maxRecDepth 100000 in
theorem bound_plain_fastest.calls (a0_0 a0_1 a0_2 a0_3 a0_4 a0_5 a0_6 a0_7 a0_8 a0_9 : Int) (A0_10 : Option Addr) (c0_10 : Nat) (l0_10 : List Int) (r : Int) (w : World) (hr0_10 : Kd.C (Kd.int .i64) w A0_10 l0_10.length l0_10) (hc0_10 : l0_10.length ≤ c0_10) (h : bound_plain_fastest.f a0_0 a0_1 a0_2 a0_3 a0_4 a0_5 a0_6 a0_7 a0_8 a0_9 l0_10 = some r) :
  Calls Try.prog 96 #[.agg #[.int .i64 a0_0, .int .i64 a0_1, .int .i64 a0_2, .int .i64 a0_3, .int .i64 a0_4, .int .i64 a0_5, .int .i64 a0_6, .int .i64 a0_7, .int .i64 a0_8, .int .i64 a0_9, .slice A0_10 l0_10.length c0_10]] w fun e w' => e = .returned (.int .i64 r) ∧ Below w.heap.size w w' := by
 have hu68 := Try.underlying68
 have HR0_10 := am_ hr0_10
 have HC0_10 := am_ hc0_10
 clear hr0_10 hc0_10
 have HB := am_ (Below.refl w.heap.size w)
 have H : (some (wrap64 (a0_4 + a0_5))) = some r := h
 clear h
 obtain rfl := Option.some.inj H
 go_enter Try.func96, Try.ntmps96
 go_wp2_with (first | ((with_reducible refine gate_dst (N := 1) rfl ?_); refine bxe_ 1 68 #[.int .i64 a0_0, .int .i64 a0_1, .int .i64 a0_2, .int .i64 a0_3, .int .i64 a0_4, .int .i64 a0_5, .int .i64 a0_6, .int .i64 a0_7, .int .i64 a0_8, .int .i64 a0_9, .slice A0_10 l0_10.length c0_10] ?_; intro gb401 hg w2 hbox hb; have BK401 := am_ (hbox); have GW401 := gwk_ HB hg; have GE401 := GW401; replace HB := bst_ HB hb; clear hb hbox hg; have hcz3 := cells_11 BK401.out; have hfz3 := frozen_11 BK401.out))
 go_ret
 exact ⟨by first | rfl | (simp [*] <;> rfl), by repeat (first | (with_reducible first | exact HB.out | apply ba_ | apply bn_ | apply bd_ | refine bs_ ?_ GE401.out) | exact HB.out)⟩
def bound_sound_turns.f (a0_0 a0_1 a0_2 a0_3 a0_4 a0_5 a0_6 a0_7 a0_8 a0_9 : Int) (l0_10 : List Int) (a0_11 : Int) : Option (Bool) := (bound_plain_fastest.f a0_0 a0_1 a0_2 a0_3 a0_4 a0_5 a0_6 a0_7 a0_8 a0_9 l0_10).bind fun t402 => (some (decide ((wrap64 (a0_3 * t402)) < 32768)))
def bound_sound_turns.T1 : Bool × List (List Nat × List Nat) := (true, [([], []), ([0], [0]), ([1], [1]), ([2], [2]), ([], []), ([4], [4]), ([5], [5]), ([3, 6], [3, 6]), ([7], [7]), ([8, 6, 0, 1, 2, 3, 4, 5, 6, 7, 8], [8])])
def bound_sound_turns.B1 : List Nat := [0, 1, 3, 7, 0, 16, 48, 127, 255, 511]
theorem bound_sound_turns.tab1 : rtab .any (opsOf Try.f66 1) = bound_sound_turns.T1 := by kernel_rfl
theorem bound_sound_turns.bits1 : waitsOk bound_sound_turns.T1.2 bound_sound_turns.B1 = true := by kernel_rfl
set_option maxHeartbeats 8000000 in
set_option maxRecDepth 100000 in
theorem bound_sound_turns.calls (a0_0 a0_1 a0_2 a0_3 a0_4 a0_5 a0_6 a0_7 a0_8 a0_9 : Int) (A0_10 : Option Addr) (c0_10 : Nat) (l0_10 : List Int) (a0_11 : Int) (r : Bool) (w : World) (hr0_10 : Kd.C (Kd.int .i64) w A0_10 l0_10.length l0_10) (hc0_10 : l0_10.length ≤ c0_10) (h : bound_sound_turns.f a0_0 a0_1 a0_2 a0_3 a0_4 a0_5 a0_6 a0_7 a0_8 a0_9 l0_10 a0_11 = some r) :
  Calls Try.prog 66 #[.agg #[.int .i64 a0_0, .int .i64 a0_1, .int .i64 a0_2, .int .i64 a0_3, .int .i64 a0_4, .int .i64 a0_5, .int .i64 a0_6, .int .i64 a0_7, .int .i64 a0_8, .int .i64 a0_9, .slice A0_10 l0_10.length c0_10, .int .i64 a0_11]] w fun e w' => e = .returned (.bool r) ∧ Below w.heap.size w w' := by
 have hu68 := Try.underlying68
 have HR0_10 := am_ hr0_10
 have HC0_10 := am_ hc0_10
 clear hr0_10 hc0_10
 have HB := am_ (Below.refl w.heap.size w)
 have H := h
 unfold bound_sound_turns.f at H
 clear h
 obtain ⟨t402, A2, H⟩ := bes_ H
 try dsimp only at H
 obtain rfl := Option.some.inj H
 go_enter Try.func66, Try.ntmps66
 try go_wp2_with (first | ((with_reducible refine gate_load (t := 72) (x := .tmp 1) rfl ?_); refine lrg_ 72 (.tmp 1) gb401 72 (by exact BK401.out) Try.underlying72 ?_) | ((with_reducible refine gate_dst (N := 1) rfl ?_); refine bxe_ 1 72 #[.int .i64 a0_0, .int .i64 a0_1, .int .i64 a0_2, .int .i64 a0_3, .int .i64 a0_4, .int .i64 a0_5, .int .i64 a0_6, .int .i64 a0_7, .int .i64 a0_8, .int .i64 a0_9, .slice A0_10 l0_10.length c0_10, .int .i64 a0_11] ?_; intro gb401 hg w3 hbox hb; have BK401 := am_ (hbox); have GW401 := gwk_ HB hg; have GE401 := GW401; replace HB := bst_ HB hb; clear hb hbox hg))
 replace BK401 := am_ (blk_drew BK401.out)
 replace HB := am_ (below_drew1 HB.out)
 refine start_ (n := 10) (S := fun w' => ce_ w' gb401 0 (.int .i64 a0_0) ∧ ce_ w' gb401 1 (.int .i64 a0_1) ∧ ce_ w' gb401 2 (.int .i64 a0_2) ∧ ce_ w' gb401 3 (.int .i64 a0_3) ∧ ce_ w' gb401 4 (.int .i64 a0_4) ∧ ce_ w' gb401 5 (.int .i64 a0_5) ∧ ce_ w' gb401 6 (.int .i64 a0_6) ∧ ce_ w' gb401 7 (.int .i64 a0_7) ∧ ce_ w' gb401 8 (.int .i64 a0_8) ∧ ce_ w' gb401 9 (.int .i64 a0_9) ∧ ce_ w' gb401 10 (.slice A0_10 l0_10.length c0_10) ∧ ce_ w' gb401 11 (.int .i64 a0_11)) (ds := []) #[false, false, false, false, false, false, false, false, false, false] (by kernel_rfl) rfl rfl ⟨(blk_cell BK401.out 0).trans rfl, (blk_cell BK401.out 1).trans rfl, (blk_cell BK401.out 2).trans rfl, (blk_cell BK401.out 3).trans rfl, (blk_cell BK401.out 4).trans rfl, (blk_cell BK401.out 5).trans rfl, (blk_cell BK401.out 6).trans rfl, (blk_cell BK401.out 7).trans rfl, (blk_cell BK401.out 8).trans rfl, (blk_cell BK401.out 9).trans rfl, (blk_cell BK401.out 10).trans rfl, (blk_cell BK401.out 11).trans rfl⟩ (fun hHeld => ?_); refine with_tabW bound_sound_turns.tab1 bound_sound_turns.bits1 (fun HT_ HW_ => ?_)
 generalize w3.drew = w4 at BK401 HB hHeld ⊢
 refine pur_ 0 (some 3) rfl rfl (any_of HT_.out (by kernel_rfl)) ?_
 refine pur_ 1 (some 4) rfl rfl (any_of HT_.out (by kernel_rfl)) ?_
 refine pur_ 2 (some 5) rfl rfl (any_of HT_.out (by kernel_rfl)) ?_
 refine pur_ 4 (some 7) rfl rfl (any_of HT_.out (by kernel_rfl)) ?_
 refine tak_ 3 (some 6) rfl rfl (take_ofW HT_.out HW_.out (by kernel_rfl)) hHeld ?_ (by rintro w' ⟨s0, s1, s2, s3, s4, s5, s6, s7, s8, s9, s10, s11⟩; (first | (refine load_cells_12 (ty := 72) (x := .tmp 1) (g := gb401) ?hlo_ ?hx_ Try.underlying72 ?hd_ ?hi_ s0 s1 s2 s3 s4 s5 s6 s7 s8 s9 s10 s11; (case hlo_ => rfl); (case hx_ => rfl); (case hd_ => rfl); (case hi_ => kernel_rfl)) | (go_simp; with_reducible rfl)))
 refine tak_ 5 (some 8) rfl rfl (take_ofW HT_.out HW_.out (by kernel_rfl)) hHeld ?_ (by rintro w' ⟨s0, s1, s2, s3, s4, s5, s6, s7, s8, s9, s10, s11⟩; (first | (refine load_cells_12 (ty := 72) (x := .tmp 1) (g := gb401) ?hlo_ ?hx_ Try.underlying72 ?hd_ ?hi_ s0 s1 s2 s3 s4 s5 s6 s7 s8 s9 s10 s11; (case hlo_ => rfl); (case hx_ => rfl); (case hd_ => rfl); (case hi_ => kernel_rfl)) | (go_simp; with_reducible rfl)))
 refine oon_ 6 (some 9) rfl rfl (one_of HT_.out (by kernel_rfl)) (fun K hK => ?_)
 refine gos_ Try.func96 (bound_plain_fastest.calls a0_0 a0_1 a0_2 a0_3 a0_4 a0_5 a0_6 a0_7 a0_8 a0_9 _ _ l0_10 _ _ (Kd.C_below HR0_10.out HB.out) HC0_10.out A2.out) ?_
 rintro e w5 ⟨rfl, hb⟩
 refine ⟨_, rfl, ?_⟩
 replace BK401 := bkb_ BK401 hb
 replace HB := bst_ HB hb
 (try clear hb)
 (try clear hb2)
 (try clear hk)
 (try clear hi)
 refine hK.out _ _ (cells_12 BK401.out) (fun hHeld => ?_)
 clear hK K
 refine nor_ 9 ?_
 refine pur_ 7 (some 10) rfl rfl (any_of HT_.out (by kernel_rfl)) ?_
 refine pur_ 8 (some 11) rfl rfl (any_of HT_.out (by kernel_rfl)) ?_
 refine pur_ 9 (some 2) rfl rfl (any_of HT_.out (by kernel_rfl)) ?_
 refine done_ (done_of HT_.out (by kernel_rfl)) ?_
 try go_wp2
 go_ret
 exact ⟨by first | rfl | (simp [*] <;> rfl), by repeat (first | (with_reducible first | exact HB.out | apply ba_ | apply bn_ | apply bd_ | refine bs_ ?_ GE401.out) | exact HB.out)⟩
end Go.Proofs.Ythdoghhmooodjaa.Gn
