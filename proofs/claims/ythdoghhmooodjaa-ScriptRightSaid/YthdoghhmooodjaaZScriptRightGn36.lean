import Derived.Test.YthdoghhmooodjaaZScriptRightGn0
import Derived.Test.YthdoghhmooodjaaZScriptRightGn1
import Derived.Test.YthdoghhmooodjaaZScriptRightGn2
import Derived.Test.YthdoghhmooodjaaZScriptRightGn16
import Derived.Test.YthdoghhmooodjaaZScriptRightGn22
import Derived.Test.YthdoghhmooodjaaZScriptRightGn35
namespace Go.Proofs.Ythdoghhmooodjaa.Gn
open Go.RowKit Go.Proofs.YthdoghhmooodjaaW.PrintWords Go.Proofs.YthdoghhmooodjaaW.PrintLast Go.Proofs.YthdoghhmooodjaaW.PrintMore
attribute [local go_sem] max2_int min2_int max_two min_two max_three min_three max_four min_four   -- for this text's walks alone
set_option linter.unusedVariables false
set_option linter.unusedSimpArgs false
def l33_ScriptRight.f (k : Nat) (a0_0 a0_1 a0_2 a0_3 a0_4 a0_5 a0_6 a0_7 a0_8 a0_9 : Int) (l0_10 l0_11 : List Int) (l0_12 : List ByteArray) (l0_13 : List (S44)) : Option (Bool) := (r33_Few.f k a0_0 a0_1 a0_2 a0_3 a0_4 a0_5 a0_6 a0_7 a0_8 a0_9 l0_10 l0_11 l0_12 l0_13 2100).bind fun t402 => (if t402 = true then ((script_Right.f k a0_0 a0_1 a0_2 a0_3 a0_4 a0_5 a0_6 a0_7 a0_8 a0_9 l0_10 l0_11 l0_12 l0_13).bind fun t403 => ((r33_Right.f k a0_0 a0_1 a0_2 a0_3 a0_4 a0_5 a0_6 a0_7 a0_8 a0_9 l0_10 l0_11 l0_12 l0_13).bind fun t404 => (if t403 = t404 then ((l33_known.f k).bind fun t405 => (some t405)) else (none)))) else ((l33_known.f k).bind fun t406 => (some t406)))
def l33_ScriptRight.T3 : Bool × List (List Nat × List Nat) := (true, [([], []), ([0], [0]), ([], []), ([2, 1], [2]), ([1, 3], [1, 3]), ([4, 3], [4]), ([5, 5], [5]), ([5, 6], [5, 6]), ([7, 6, 0, 1, 2, 3, 4, 5, 6, 7], [7])])
def l33_ScriptRight.B3 : List Nat := [0, 1, 0, 7, 15, 31, 63, 127, 255]
theorem l33_ScriptRight.tab3 : rtab .any (opsOf Try.f3 3) = l33_ScriptRight.T3 := by kernel_rfl
theorem l33_ScriptRight.bits3 : waitsOk l33_ScriptRight.T3.2 l33_ScriptRight.B3 = true := by kernel_rfl
set_option maxHeartbeats 8000000 in
set_option maxRecDepth 100000 in
theorem l33_ScriptRight.calls (k : Nat) (a0_0 a0_1 a0_2 a0_3 a0_4 a0_5 a0_6 a0_7 a0_8 a0_9 : Int) (A0_10 : Option Addr) (c0_10 : Nat) (l0_10 : List Int) (A0_11 : Option Addr) (c0_11 : Nat) (l0_11 : List Int) (A0_12 : Option Addr) (c0_12 : Nat) (l0_12 : List ByteArray) (A0_13 : Option Addr) (c0_13 : Nat) (l0_13 : List (S44)) (r : Bool) (w : World) (hr0_10 : Kd.C (Kd.int .i64) w A0_10 l0_10.length l0_10) (hc0_10 : l0_10.length ≤ c0_10) (hr0_11 : Kd.C (Kd.int .i64) w A0_11 l0_11.length l0_11) (hc0_11 : l0_11.length ≤ c0_11) (hr0_12 : Kd.C Kd.string w A0_12 l0_12.length l0_12) (hc0_12 : l0_12.length ≤ c0_12) (hr0_13 : Kd.C k44 w A0_13 l0_13.length l0_13) (hc0_13 : l0_13.length ≤ c0_13) (h : l33_ScriptRight.f k a0_0 a0_1 a0_2 a0_3 a0_4 a0_5 a0_6 a0_7 a0_8 a0_9 l0_10 l0_11 l0_12 l0_13 = some r) :
  Calls Try.prog 3 #[.agg #[.int .i64 a0_0, .int .i64 a0_1, .int .i64 a0_2, .int .i64 a0_3, .int .i64 a0_4, .int .i64 a0_5, .int .i64 a0_6, .int .i64 a0_7, .int .i64 a0_8, .int .i64 a0_9, .slice A0_10 l0_10.length c0_10, .slice A0_11 l0_11.length c0_11, .slice A0_12 l0_12.length c0_12, .slice A0_13 l0_13.length c0_13]] w fun e w' => e = .returned (.bool r) ∧ Below w.heap.size w w' := by
 have HR0_10 := am_ hr0_10
 have HC0_10 := am_ hc0_10
 clear hr0_10 hc0_10
 have HR0_11 := am_ hr0_11
 have HC0_11 := am_ hc0_11
 clear hr0_11 hc0_11
 have HR0_12 := am_ hr0_12
 have HC0_12 := am_ hc0_12
 clear hr0_12 hc0_12
 have HR0_13 := am_ hr0_13
 have HC0_13 := am_ hc0_13
 clear hr0_13 hc0_13
 have HB := am_ (Below.refl w.heap.size w)
 have H := h
 unfold l33_ScriptRight.f at H
 clear h
 obtain ⟨t402, A2, H⟩ := bes_ H
 try dsimp only at H
 by_cases c3 : t402 = true
 ·subst c3
  rw [if_pos rfl] at H
  obtain ⟨t403, A4, H⟩ := bes_ H
  try dsimp only at H
  obtain ⟨t404, A5, H⟩ := bes_ H
  try dsimp only at H
  by_cases c6 : t403 = t404
  ·rw [if_pos c6] at H
   have c6b0 : (t403 == t404) = true := beq_iff_eq.mpr c6
   have c6b1 : (t403 != t404) = false := bne_eq_false_iff_eq.mpr c6
   clear c6
   replace H := Option.bind_eq_some_iff.mp H
   obtain ⟨t405, A70, H⟩ := H
   replace H : (some t405) = some r := H
   have A7 := am_ A70
   clear A70
   obtain rfl := Option.some.inj H
   go_enter Try.func3, Try.ntmps3
   try go_wp2_with (first | ((with_reducible refine gate_load (t := 28) (x := .tmp 1) rfl ?_); refine lrg_ 28 (.tmp 1) gb401 28 (by exact BK401.out) Try.underlying28 ?_) | ((with_reducible refine gate_dst (N := 1) rfl ?_); refine bxe_ 1 28 #[.int .i64 a0_0, .int .i64 a0_1, .int .i64 a0_2, .int .i64 a0_3, .int .i64 a0_4, .int .i64 a0_5, .int .i64 a0_6, .int .i64 a0_7, .int .i64 a0_8, .int .i64 a0_9, .slice A0_10 l0_10.length c0_10, .slice A0_11 l0_11.length c0_11, .slice A0_12 l0_12.length c0_12, .slice A0_13 l0_13.length c0_13] ?_; intro gb401 hg w8 hbox hb; have BK401 := am_ (hbox); have GW401 := gwk_ HB hg; have GE401 := GW401; replace HB := bst_ HB hb; clear hb hbox hg; have hall1_ := cells_14 BK401.out; have hall2_ := frozen_14 BK401.out) | ((with_reducible refine gate_callee (f := 10) rfl ?_); refine gom_ (some 4) Try.func10 (r33_Few.calls k a0_0 a0_1 a0_2 a0_3 a0_4 a0_5 a0_6 a0_7 a0_8 a0_9 _ _ l0_10 _ _ l0_11 _ _ l0_12 _ _ l0_13 2100 _ _ (Kd.C_below HR0_10.out HB.out) HC0_10.out (Kd.C_below HR0_11.out HB.out) HC0_11.out (Kd.C_below HR0_12.out HB.out) HC0_12.out (Kd.C_below HR0_13.out HB.out) HC0_13.out A2.out) ?_; rintro e w10 ⟨rfl, hb⟩; refine ⟨_, rfl, ?_⟩; replace BK401 := bkb_ BK401 hb; replace HB := bst_ HB hb; (try clear hb)))
   replace BK401 := am_ (blk_drew BK401.out)
   replace HB := am_ (below_drew1 HB.out)
   refine start_ (n := 9) (S := fun w' => ce_ w' gb401 0 (.int .i64 a0_0) ∧ ce_ w' gb401 1 (.int .i64 a0_1) ∧ ce_ w' gb401 2 (.int .i64 a0_2) ∧ ce_ w' gb401 3 (.int .i64 a0_3) ∧ ce_ w' gb401 4 (.int .i64 a0_4) ∧ ce_ w' gb401 5 (.int .i64 a0_5) ∧ ce_ w' gb401 6 (.int .i64 a0_6) ∧ ce_ w' gb401 7 (.int .i64 a0_7) ∧ ce_ w' gb401 8 (.int .i64 a0_8) ∧ ce_ w' gb401 9 (.int .i64 a0_9) ∧ ce_ w' gb401 10 (.slice A0_10 l0_10.length c0_10) ∧ ce_ w' gb401 11 (.slice A0_11 l0_11.length c0_11) ∧ ce_ w' gb401 12 (.slice A0_12 l0_12.length c0_12) ∧ ce_ w' gb401 13 (.slice A0_13 l0_13.length c0_13)) (ds := []) #[false, false, false, false, false, false, false, false, false] (by kernel_rfl) rfl rfl ⟨(blk_cell BK401.out 0).trans rfl, (blk_cell BK401.out 1).trans rfl, (blk_cell BK401.out 2).trans rfl, (blk_cell BK401.out 3).trans rfl, (blk_cell BK401.out 4).trans rfl, (blk_cell BK401.out 5).trans rfl, (blk_cell BK401.out 6).trans rfl, (blk_cell BK401.out 7).trans rfl, (blk_cell BK401.out 8).trans rfl, (blk_cell BK401.out 9).trans rfl, (blk_cell BK401.out 10).trans rfl, (blk_cell BK401.out 11).trans rfl, (blk_cell BK401.out 12).trans rfl, (blk_cell BK401.out 13).trans rfl⟩ (fun hHeld => ?_); refine with_tabW l33_ScriptRight.tab3 l33_ScriptRight.bits3 (fun HT_ HW_ => ?_)
   generalize w10.drew = w11 at BK401 HB hHeld ⊢
   refine tak_ 0 (some 7) rfl rfl (take_ofW HT_.out HW_.out (by kernel_rfl)) hHeld ?_ (by rintro w' ⟨s0, s1, s2, s3, s4, s5, s6, s7, s8, s9, s10, s11, s12, s13⟩; (first | (refine load_cells_14 (ty := 28) (x := .tmp 1) (g := gb401) ?hlo_ ?hx_ Try.underlying28 ?hd_ ?hi_ s0 s1 s2 s3 s4 s5 s6 s7 s8 s9 s10 s11 s12 s13; (case hlo_ => rfl); (case hx_ => rfl); (case hd_ => rfl); (case hi_ => kernel_rfl)) | (go_simp; with_reducible rfl)))
   refine tak_ 2 (some 9) rfl rfl (take_ofW HT_.out HW_.out (by kernel_rfl)) hHeld ?_ (by rintro w' ⟨s0, s1, s2, s3, s4, s5, s6, s7, s8, s9, s10, s11, s12, s13⟩; (first | (refine load_cells_14 (ty := 28) (x := .tmp 1) (g := gb401) ?hlo_ ?hx_ Try.underlying28 ?hd_ ?hi_ s0 s1 s2 s3 s4 s5 s6 s7 s8 s9 s10 s11 s12 s13; (case hlo_ => rfl); (case hx_ => rfl); (case hd_ => rfl); (case hi_ => kernel_rfl)) | (go_simp; with_reducible rfl)))
   refine oon_ 1 (some 8) rfl rfl (one_of HT_.out (by kernel_rfl)) (fun K hK => ?_)
   refine gos_ Try.func12 (script_Right.calls k a0_0 a0_1 a0_2 a0_3 a0_4 a0_5 a0_6 a0_7 a0_8 a0_9 _ _ l0_10 _ _ l0_11 _ _ l0_12 _ _ l0_13 _ _ (Kd.C_below HR0_10.out HB.out) HC0_10.out (Kd.C_below HR0_11.out HB.out) HC0_11.out (Kd.C_below HR0_12.out HB.out) HC0_12.out (Kd.C_below HR0_13.out HB.out) HC0_13.out A4.out) ?_
   rintro e w12 ⟨rfl, hb⟩
   refine ⟨_, rfl, ?_⟩
   replace BK401 := bkb_ BK401 hb
   replace HB := bst_ HB hb
   (try clear hb)
   (try clear hb2)
   (try clear hk)
   (try clear hi)
   refine hK.out _ _ (cells_14 BK401.out) (fun hHeld => ?_)
   clear hK K
   refine nor_ 8 ?_
   refine oon_ 3 (some 10) rfl rfl (one_of HT_.out (by kernel_rfl)) (fun K hK => ?_)
   refine gos_ Try.func13 (r33_Right.calls k a0_0 a0_1 a0_2 a0_3 a0_4 a0_5 a0_6 a0_7 a0_8 a0_9 _ _ l0_10 _ _ l0_11 _ _ l0_12 _ _ l0_13 _ _ (Kd.C_below HR0_10.out HB.out) HC0_10.out (Kd.C_below HR0_11.out HB.out) HC0_11.out (Kd.C_below HR0_12.out HB.out) HC0_12.out (Kd.C_below HR0_13.out HB.out) HC0_13.out A5.out) ?_
   rintro e w13 ⟨rfl, hb⟩
   refine ⟨_, rfl, ?_⟩
   replace BK401 := bkb_ BK401 hb
   replace HB := bst_ HB hb
   (try clear hb)
   (try clear hb2)
   (try clear hk)
   (try clear hi)
   refine hK.out _ _ (cells_14 BK401.out) (fun hHeld => ?_)
   clear hK K
   refine nor_ 10 ?_
   refine pur_ 4 (some 11) rfl rfl (any_of HT_.out (by kernel_rfl)) ?_
   refine pur_ 5 (some 12) rfl rfl (any_of HT_.out (by kernel_rfl)) ?_
   refine oon_ 6 (some 13) rfl rfl (one_of HT_.out (by kernel_rfl)) (fun K hK => ?_)
   refine gos_ Try.func11 (l33_known.calls k  _ _ A7.out) ?_
   rintro e w14 ⟨rfl, hb⟩
   refine ⟨_, rfl, ?_⟩
   replace BK401 := bkb_ BK401 hb
   replace HB := bst_ HB hb
   (try clear hb)
   (try clear hb2)
   (try clear hk)
   (try clear hi)
   refine hK.out _ _ (cells_14 BK401.out) (fun hHeld => ?_)
   clear hK K
   refine nor_ 13 ?_
   refine pur_ 7 (some 14) rfl rfl (any_of HT_.out (by kernel_rfl)) ?_
   refine pur_ 8 (some 2) rfl rfl (any_of HT_.out (by kernel_rfl)) ?_
   refine done_ (done_of HT_.out (by kernel_rfl)) ?_
   try go_wp2
   go_ret
   exact ⟨by first | rfl | (simp [*] <;> rfl), by repeat (first | (with_reducible first | exact HB.out | apply ba_ | apply bn_ | apply bd_ | refine bs_ ?_ GE401.out) | exact HB.out)⟩
  ·rw [if_neg c6] at H
   have c6b0 : (t403 == t404) = false := beq_eq_false_iff_ne.mpr c6
   have c6b1 : (t403 != t404) = true := bne_iff_ne.mpr c6
   exact absurd H (by simp)
 ·replace c3 := Bool.eq_false_iff.mpr c3
  subst c3
  rw [if_neg (show ¬ (false = true) by decide)] at H
  replace H := Option.bind_eq_some_iff.mp H
  obtain ⟨t406, A150, H⟩ := H
  replace H : (some t406) = some r := H
  have A15 := am_ A150
  clear A150
  obtain rfl := Option.some.inj H
  go_enter Try.func3, Try.ntmps3
  go_wp2_with (first | ((with_reducible refine gate_load (t := 28) (x := .tmp 1) rfl ?_); refine lrg_ 28 (.tmp 1) gb401 28 (by exact BK401.out) Try.underlying28 ?_) | ((with_reducible refine gate_dst (N := 1) rfl ?_); refine bxe_ 1 28 #[.int .i64 a0_0, .int .i64 a0_1, .int .i64 a0_2, .int .i64 a0_3, .int .i64 a0_4, .int .i64 a0_5, .int .i64 a0_6, .int .i64 a0_7, .int .i64 a0_8, .int .i64 a0_9, .slice A0_10 l0_10.length c0_10, .slice A0_11 l0_11.length c0_11, .slice A0_12 l0_12.length c0_12, .slice A0_13 l0_13.length c0_13] ?_; intro gb401 hg w16 hbox hb; have BK401 := am_ (hbox); have GW401 := gwk_ HB hg; have GE401 := GW401; replace HB := bst_ HB hb; clear hb hbox hg; have hall3_ := cells_14 BK401.out; have hall4_ := frozen_14 BK401.out) | ((with_reducible refine gate_callee (f := 10) rfl ?_); refine gom_ (some 4) Try.func10 (r33_Few.calls k a0_0 a0_1 a0_2 a0_3 a0_4 a0_5 a0_6 a0_7 a0_8 a0_9 _ _ l0_10 _ _ l0_11 _ _ l0_12 _ _ l0_13 2100 _ _ (Kd.C_below HR0_10.out HB.out) HC0_10.out (Kd.C_below HR0_11.out HB.out) HC0_11.out (Kd.C_below HR0_12.out HB.out) HC0_12.out (Kd.C_below HR0_13.out HB.out) HC0_13.out A2.out) ?_; rintro e w18 ⟨rfl, hb⟩; refine ⟨_, rfl, ?_⟩; replace BK401 := bkb_ BK401 hb; replace HB := bst_ HB hb; (try clear hb)) | ((with_reducible refine gate_callee (f := 11) rfl ?_); refine gom_ (some 6) Try.func11 (l33_known.calls k  _ _ A15.out) ?_; rintro e w19 ⟨rfl, hb⟩; refine ⟨_, rfl, ?_⟩; replace BK401 := bkb_ BK401 hb; replace HB := bst_ HB hb; (try clear hb)))
  go_ret
  exact ⟨by first | rfl | (simp [*] <;> rfl), by repeat (first | (with_reducible first | exact HB.out | apply ba_ | apply bn_ | apply bd_ | refine bs_ ?_ GE401.out) | exact HB.out)⟩
end Go.Proofs.Ythdoghhmooodjaa.Gn
