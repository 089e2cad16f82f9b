import Derived.Test.YthdoghhmooodjaaZScriptReadsGn0
import Derived.Test.YthdoghhmooodjaaZScriptReadsGn1
import Derived.Test.YthdoghhmooodjaaZScriptReadsGn2
import Derived.Test.YthdoghhmooodjaaZScriptReadsGn20
import Derived.Test.YthdoghhmooodjaaZScriptReadsGn21
import Derived.Test.YthdoghhmooodjaaZScriptReadsGn22
import Derived.Test.YthdoghhmooodjaaZScriptReadsGn37
import Derived.Test.YthdoghhmooodjaaZScriptReadsGn63
import Derived.Test.YthdoghhmooodjaaZScriptReadsGn64
import Derived.Test.YthdoghhmooodjaaZScriptReadsGn65
namespace Go.Proofs.Ythdoghhmooodjaa.Gn
open Go.RowKit Go.Proofs.YthdoghhmooodjaaW.PrintWords Go.Proofs.YthdoghhmooodjaaW.PrintLast Go.Proofs.YthdoghhmooodjaaW.PrintMore
attribute [local go_sem] max2_int min2_int max_two min_two max_three min_three max_four min_four   -- for this text's walks alone
set_option linter.unusedVariables false
set_option linter.unusedSimpArgs false
def l33_ScriptReads.f (k : Nat) (a0_0 a0_1 a0_2 a0_3 a0_4 a0_5 a0_6 a0_7 a0_8 a0_9 : Int) (l0_10 l0_11 : List Int) (l0_12 : List ByteArray) (l0_13 : List (S44)) (a1 a2 a3 : Int) : Option (Bool) := (r33_Few.f k a0_0 a0_1 a0_2 a0_3 a0_4 a0_5 a0_6 a0_7 a0_8 a0_9 l0_10 l0_11 l0_12 l0_13 2100).bind fun t402 => (if t402 = true then ((script_Units.f k a0_0 a0_1 a0_2 a0_3 a0_4 a0_5 a0_6 a0_7 a0_8 a0_9 l0_10 l0_11 l0_12 l0_13 a1 a2).bind fun t404 => ((r33_Units.f k a0_0 a0_1 a0_2 a0_3 a0_4 a0_5 a0_6 a0_7 a0_8 a0_9 l0_10 l0_11 l0_12 l0_13 a1 a2).bind fun t405 => (if t404 = t405 then ((script_Delay.f k a0_0 a0_1 a0_2 a0_3 a0_4 a0_5 a0_6 a0_7 a0_8 a0_9 l0_10 l0_11 l0_12 l0_13 a1 a2 a3).bind fun t406 => ((r33_Delay.f k a0_0 a0_1 a0_2 a0_3 a0_4 a0_5 a0_6 a0_7 a0_8 a0_9 l0_10 l0_11 l0_12 l0_13 a1 a2 a3).bind fun t407 => (if t406 = t407 then ((script_Image.f k a0_0 a0_1 a0_2 a0_3 a0_4 a0_5 a0_6 a0_7 a0_8 a0_9 l0_10 l0_11 l0_12 l0_13 a2).bind fun t408 => ((r33_Image.f a0_0 a0_1 a0_2 a0_3 a0_4 a0_5 a0_6 a0_7 a0_8 a0_9 l0_10 l0_11 l0_12 l0_13 a2).bind fun t409 => (if t408.toList = t409.toList then ((script_Faulty.f k a0_0 a0_1 a0_2 a0_3 a0_4 a0_5 a0_6 a0_7 a0_8 a0_9 l0_10 l0_11 l0_12 l0_13 a2).bind fun t410 => ((r33_Faulty.f k a0_0 a0_1 a0_2 a0_3 a0_4 a0_5 a0_6 a0_7 a0_8 a0_9 l0_10 l0_11 l0_12 l0_13 a2).bind fun t411 => (if (t410 == t411) = true then ((script_Honest.f k a0_0 a0_1 a0_2 a0_3 a0_4 a0_5 a0_6 a0_7 a0_8 a0_9 l0_10 l0_11 l0_12 l0_13).bind fun t412 => ((r33_Honest.f k a0_0 a0_1 a0_2 a0_3 a0_4 a0_5 a0_6 a0_7 a0_8 a0_9 l0_10 l0_11 l0_12 l0_13).bind fun t415 => ((r06_Ints.f k t412 t415).bind fun t418 => (if t418 = true then ((l33_known.f k).bind fun t419 => (some t419)) else (none))))) else (none)))) else (none)))) else (none)))) else (none)))) else ((l33_known.f k).bind fun t403 => (some t403)))
def l33_ScriptReads.T3 : Bool × List (List Nat × List Nat) := (true, [([], []), ([], []), ([], []), ([0, 1, 2], [0, 1, 2]), ([], []), ([], []), ([], []), ([4, 5, 6, 3], [4, 5, 6]), ([3, 7], [3, 7]), ([8, 7], [8]), ([9], [9]), ([9], [9]), ([9], [9]), ([9], [9]), ([10, 11, 12, 13, 9, 9], [9, 10, 11, 12, 13]), ([9], [9]), ([9], [9]), ([9], [9]), ([9], [9]), ([15, 16, 17, 18, 14, 9], [9, 15, 16, 17, 18]), ([14, 19, 9], [9, 14, 19]), ([9, 20], [9, 20]), ([21, 19], [21]), ([22], [22]), ([22], [22]), ([23, 24, 22, 22], [22, 23, 24]), ([22], [22]), ([22], [22]), ([26, 27, 25, 22], [22, 26, 27]), ([25, 28, 22], [22, 25, 28]), ([22, 29], [22, 29]), ([30, 28], [30]), ([31], [31]), ([31], [31]), ([32, 33, 31, 31], [31, 32, 33]), ([31], [31]), ([31], [31]), ([35, 36, 34, 31], [31, 35, 36]), ([34, 37, 31], [31, 34, 37]), ([31, 38], [31, 38]), ([39, 37], [39]), ([40], [40]), ([41, 40, 40], [40, 41]), ([40], [40]), ([43, 42, 40], [40, 43]), ([42, 44, 44, 40], [40, 42, 44]), ([40, 45], [40, 45]), ([46, 45], [46]), ([47, 47], [47]), ([47, 48], [47, 48]), ([49, 48, 0, 1, 2, 3, 4, 5, 6, 7, 8, 9, 10, 11, 12, 13, 14, 15, 16, 17, 18, 19, 20, 21, 22, 23, 24, 25, 26, 27, 28, 29, 30, 31, 32, 33, 34, 35, 36, 37, 38, 39, 40, 41, 42, 43, 44, 45, 46, 47, 48, 49], [49])])
def l33_ScriptReads.B3 : List Nat := [0, 0, 0, 7, 0, 0, 0, 127, 255, 511, 1023, 1023, 1023, 1023, 16383, 1023, 1023, 1023, 1023, 524287, 1048575, 2097151, 4194303, 8388607, 8388607, 33554431, 8388607, 8388607, 268435455, 536870911, 1073741823, 2147483647, 4294967295, 4294967295, 17179869183, 4294967295, 4294967295, 137438953471, 274877906943, 549755813887, 1099511627775, 2199023255551, 4398046511103, 2199023255551, 17592186044415, 35184372088831, 70368744177663, 140737488355327, 281474976710655, 562949953421311, 1125899906842623]
theorem l33_ScriptReads.tab3 : rtab .any (opsOf Try.f4 3) = l33_ScriptReads.T3 := by kernel_rfl
theorem l33_ScriptReads.bits3 : waitsOk l33_ScriptReads.T3.2 l33_ScriptReads.B3 = true := by kernel_rfl
set_option maxHeartbeats 8000000 in
set_option maxRecDepth 100000 in
theorem l33_ScriptReads.calls (k : Nat) (a0_0 a0_1 a0_2 a0_3 a0_4 a0_5 a0_6 a0_7 a0_8 a0_9 : Int) (A0_10 : Option Addr) (c0_10 : Nat) (l0_10 : List Int) (A0_11 : Option Addr) (c0_11 : Nat) (l0_11 : List Int) (A0_12 : Option Addr) (c0_12 : Nat) (l0_12 : List ByteArray) (A0_13 : Option Addr) (c0_13 : Nat) (l0_13 : List (S44)) (a1 a2 a3 : Int) (r : Bool) (w : World) (hr0_10 : Kd.C (Kd.int .i64) w A0_10 l0_10.length l0_10) (hc0_10 : l0_10.length ≤ c0_10) (hr0_11 : Kd.C (Kd.int .i64) w A0_11 l0_11.length l0_11) (hc0_11 : l0_11.length ≤ c0_11) (hr0_12 : Kd.C Kd.string w A0_12 l0_12.length l0_12) (hc0_12 : l0_12.length ≤ c0_12) (hr0_13 : Kd.C k44 w A0_13 l0_13.length l0_13) (hc0_13 : l0_13.length ≤ c0_13) (h : l33_ScriptReads.f k a0_0 a0_1 a0_2 a0_3 a0_4 a0_5 a0_6 a0_7 a0_8 a0_9 l0_10 l0_11 l0_12 l0_13 a1 a2 a3 = some r) :
  Calls Try.prog 4 #[.agg #[.int .i64 a0_0, .int .i64 a0_1, .int .i64 a0_2, .int .i64 a0_3, .int .i64 a0_4, .int .i64 a0_5, .int .i64 a0_6, .int .i64 a0_7, .int .i64 a0_8, .int .i64 a0_9, .slice A0_10 l0_10.length c0_10, .slice A0_11 l0_11.length c0_11, .slice A0_12 l0_12.length c0_12, .slice A0_13 l0_13.length c0_13], .int .i64 a1, .int .i64 a2, .int .i64 a3] w fun e w' => e = .returned (.bool r) ∧ Below w.heap.size w w' := by
 have HR0_10 := am_ hr0_10
 have HC0_10 := am_ hc0_10
 clear hr0_10 hc0_10
 have HR0_11 := am_ hr0_11
 have HC0_11 := am_ hc0_11
 clear hr0_11 hc0_11
 have HR0_12 := am_ hr0_12
 have HC0_12 := am_ hc0_12
 clear hr0_12 hc0_12
 have HR0_13 := am_ hr0_13
 have HC0_13 := am_ hc0_13
 clear hr0_13 hc0_13
 have HB := am_ (Below.refl w.heap.size w)
 have H := h
 unfold l33_ScriptReads.f at H
 clear h
 obtain ⟨t402, A5, H⟩ := bes_ H
 try dsimp only at H
 by_cases c6 : t402 = true
 ·subst c6
  rw [if_pos rfl] at H
  obtain ⟨t404, A7, H⟩ := bes_ H
  try dsimp only at H
  obtain ⟨t405, A8, H⟩ := bes_ H
  try dsimp only at H
  by_cases c9 : t404 = t405
  ·rw [if_pos c9] at H
   have c9b0 : (t404 == t405) = true := beq_iff_eq.mpr c9
   have c9b1 : (t404 != t405) = false := bne_eq_false_iff_eq.mpr c9
   clear c9
   obtain ⟨t406, A10, H⟩ := bes_ H
   try dsimp only at H
   obtain ⟨t407, A11, H⟩ := bes_ H
   try dsimp only at H
   by_cases c12 : t406 = t407
   ·rw [if_pos c12] at H
    have c12b0 : (t406 == t407) = true := beq_iff_eq.mpr c12
    have c12b1 : (t406 != t407) = false := bne_eq_false_iff_eq.mpr c12
    clear c12
    obtain ⟨t408, A13, H⟩ := bes_ H
    try dsimp only at H
    obtain ⟨t409, A14, H⟩ := bes_ H
    try dsimp only at H
    by_cases c15 : t408.toList = t409.toList
    ·rw [if_pos c15] at H
     have c15b0 : (t408.toList == t409.toList) = true := beq_iff_eq.mpr c15
     have c15b1 : (t408.toList != t409.toList) = false := bne_eq_false_iff_eq.mpr c15
     clear c15
     obtain ⟨t410, A16, H⟩ := bes_ H
     try dsimp only at H
     obtain ⟨t411, A17, H⟩ := bes_ H
     try dsimp only at H
     by_cases c18 : (t410 == t411) = true
     ·rw [if_pos c18] at H
      have c18b0 : (t410 == t411) = true := c18
      (try (have c18b1 : decide (t410 = t411) = true := by simpa using c18))
      (try (have c18b2 : (t410 == t411) = true := by simpa using c18))
      clear c18
      obtain ⟨t412, A19, H⟩ := bes_ H
      try dsimp only at H
      obtain ⟨t415, A20, H⟩ := bes_ H
      try dsimp only at H
      obtain ⟨t418, A21, H⟩ := bes_ H
      try dsimp only at H
      by_cases c22 : t418 = true
      ·subst c22
       rw [if_pos rfl] at H
       replace H := Option.bind_eq_some_iff.mp H
       obtain ⟨t419, A230, H⟩ := H
       replace H : (some t419) = some r := H
       have A23 := am_ A230
       clear A230
       obtain rfl := Option.some.inj H
       go_enter Try.func4, Try.ntmps4
       try go_wp2_with (first | ((with_reducible refine gate_load (t := 28) (x := .tmp 4) rfl ?_); refine lrg_ 28 (.tmp 4) gb401 28 (by (with_reducible repeat (first | apply kn_ | apply kd_ | apply ka_)); exact BK401.out) Try.underlying28 ?_) | ((with_reducible refine gate_dst (N := 4) rfl ?_); refine bxe_ 4 28 #[.int .i64 a0_0, .int .i64 a0_1, .int .i64 a0_2, .int .i64 a0_3, .int .i64 a0_4, .int .i64 a0_5, .int .i64 a0_6, .int .i64 a0_7, .int .i64 a0_8, .int .i64 a0_9, .slice A0_10 l0_10.length c0_10, .slice A0_11 l0_11.length c0_11, .slice A0_12 l0_12.length c0_12, .slice A0_13 l0_13.length c0_13] ?_; intro gb401 hg w24 hbox hb; have q0_ := below_of hb (by repeat (first | (with_reducible first | exact HB.out | apply ba_ | apply bn_ | apply bd_) | exact HB.out)); have BK401 := am_ (hbox); have GW401 := am_ ((by rw [hg]; exact (below_size q0_) : w.heap.size ≤ gb401)); have GE401 := GW401; replace HB := am_ (below_step q0_ hb); clear q0_; clear hb hbox hg; have hall1_ := cells_14 BK401.out; have hall2_ := frozen_14 BK401.out) | ((with_reducible refine gate_callee (f := 10) rfl ?_); refine gom_ (some 10) Try.func10 (r33_Few.calls k a0_0 a0_1 a0_2 a0_3 a0_4 a0_5 a0_6 a0_7 a0_8 a0_9 _ _ l0_10 _ _ l0_11 _ _ l0_12 _ _ l0_13 2100 _ _ ?side1 HC0_10.out ?side3 HC0_11.out ?side5 HC0_12.out ?side7 HC0_13.out A5.out) ?_; (case side1 => repeat (first | exact (Kd.C_below HR0_10.out HB.out) | (with_reducible refine Kd.C_alloc ?_ _) | (with_reducible refine Kd.C_drewN ?_ _) | (with_reducible refine Kd.C_drew ?_))); (case side3 => repeat (first | exact (Kd.C_below HR0_11.out HB.out) | (with_reducible refine Kd.C_alloc ?_ _) | (with_reducible refine Kd.C_drewN ?_ _) | (with_reducible refine Kd.C_drew ?_))); (case side5 => repeat (first | exact (Kd.C_below HR0_12.out HB.out) | (with_reducible refine Kd.C_alloc ?_ _) | (with_reducible refine Kd.C_drewN ?_ _) | (with_reducible refine Kd.C_drew ?_))); (case side7 => repeat (first | exact (Kd.C_below HR0_13.out HB.out) | (with_reducible refine Kd.C_alloc ?_ _) | (with_reducible refine Kd.C_drewN ?_ _) | (with_reducible refine Kd.C_drew ?_))); rintro e w26 ⟨rfl, hb⟩; refine ⟨_, rfl, ?_⟩; replace BK401 := am_ (blk_below (by (with_reducible repeat (first | apply kn_ | apply kd_ | apply ka_)); exact BK401.out) hb); replace HB := am_ (below_step (by repeat (first | (with_reducible first | exact HB.out | apply ba_ | apply bn_ | apply bd_ | refine bs_ ?_ GE401.out) | exact HB.out)) hb); (try clear hb)))
       replace BK401 := am_ (blk_drew BK401.out)
       replace HB := am_ (below_drew1 HB.out)
       refine start_ (n := 51) (S := fun w' => ce_ w' gb401 0 (.int .i64 a0_0) ∧ ce_ w' gb401 1 (.int .i64 a0_1) ∧ ce_ w' gb401 2 (.int .i64 a0_2) ∧ ce_ w' gb401 3 (.int .i64 a0_3) ∧ ce_ w' gb401 4 (.int .i64 a0_4) ∧ ce_ w' gb401 5 (.int .i64 a0_5) ∧ ce_ w' gb401 6 (.int .i64 a0_6) ∧ ce_ w' gb401 7 (.int .i64 a0_7) ∧ ce_ w' gb401 8 (.int .i64 a0_8) ∧ ce_ w' gb401 9 (.int .i64 a0_9) ∧ ce_ w' gb401 10 (.slice A0_10 l0_10.length c0_10) ∧ ce_ w' gb401 11 (.slice A0_11 l0_11.length c0_11) ∧ ce_ w' gb401 12 (.slice A0_12 l0_12.length c0_12) ∧ ce_ w' gb401 13 (.slice A0_13 l0_13.length c0_13)) (ds := []) #[false, false, false, false, false, false, false, false, false, false, false, false, false, false, false, false, false, false, false, false, false, false, false, false, false, false, false, false, false, false, false, false, false, false, false, false, false, false, false, false, false, false, false, false, false, false, false, false, false, false, false] (by kernel_rfl) rfl rfl ⟨(blk_cell BK401.out 0).trans rfl, (blk_cell BK401.out 1).trans rfl, (blk_cell BK401.out 2).trans rfl, (blk_cell BK401.out 3).trans rfl, (blk_cell BK401.out 4).trans rfl, (blk_cell BK401.out 5).trans rfl, (blk_cell BK401.out 6).trans rfl, (blk_cell BK401.out 7).trans rfl, (blk_cell BK401.out 8).trans rfl, (blk_cell BK401.out 9).trans rfl, (blk_cell BK401.out 10).trans rfl, (blk_cell BK401.out 11).trans rfl, (blk_cell BK401.out 12).trans rfl, (blk_cell BK401.out 13).trans rfl⟩ (fun hHeld => ?_); refine with_tabW l33_ScriptReads.tab3 l33_ScriptReads.bits3 (fun HT_ HW_ => ?_)
       generalize w26.drew = w27 at BK401 HB hHeld ⊢
       refine pur_ 1 (some 14) rfl rfl (any_of HT_.out (by kernel_rfl)) ?_
       refine pur_ 2 (some 15) rfl rfl (any_of HT_.out (by kernel_rfl)) ?_
       refine pur_ 5 (some 18) rfl rfl (any_of HT_.out (by kernel_rfl)) ?_
       refine pur_ 6 (some 19) rfl rfl (any_of HT_.out (by kernel_rfl)) ?_
       refine tak_ 0 (some 13) rfl rfl (take_ofW HT_.out HW_.out (by kernel_rfl)) hHeld ?_ (by rintro w' ⟨s0, s1, s2, s3, s4, s5, s6, s7, s8, s9, s10, s11, s12, s13⟩; (first | (refine load_cells_14 (ty := 28) (x := .tmp 4) (g := gb401) ?hlo_ ?hx_ Try.underlying28 ?hd_ ?hi_ s0 s1 s2 s3 s4 s5 s6 s7 s8 s9 s10 s11 s12 s13; (case hlo_ => rfl); (case hx_ => rfl); (case hd_ => rfl); (case hi_ => kernel_rfl)) | (go_simp; with_reducible rfl)))
       refine tak_ 4 (some 17) rfl rfl (take_ofW HT_.out HW_.out (by kernel_rfl)) hHeld ?_ (by rintro w' ⟨s0, s1, s2, s3, s4, s5, s6, s7, s8, s9, s10, s11, s12, s13⟩; (first | (refine load_cells_14 (ty := 28) (x := .tmp 4) (g := gb401) ?hlo_ ?hx_ Try.underlying28 ?hd_ ?hi_ s0 s1 s2 s3 s4 s5 s6 s7 s8 s9 s10 s11 s12 s13; (case hlo_ => rfl); (case hx_ => rfl); (case hd_ => rfl); (case hi_ => kernel_rfl)) | (go_simp; with_reducible rfl)))
       refine oon_ 3 (some 16) rfl rfl (one_of HT_.out (by kernel_rfl)) (fun K hK => ?_)
       refine gos_ Try.func14 (script_Units.calls k a0_0 a0_1 a0_2 a0_3 a0_4 a0_5 a0_6 a0_7 a0_8 a0_9 _ _ l0_10 _ _ l0_11 _ _ l0_12 _ _ l0_13 a1 a2 t404 _ ?side1 HC0_10.out ?side3 HC0_11.out ?side5 HC0_12.out ?side7 HC0_13.out A7.out) ?_
       (case side1 => repeat (first | exact (Kd.C_below HR0_10.out HB.out) | (with_reducible refine Kd.C_alloc ?_ _) | (with_reducible refine Kd.C_drewN ?_ _) | (with_reducible refine Kd.C_drew ?_)))
       (case side3 => repeat (first | exact (Kd.C_below HR0_11.out HB.out) | (with_reducible refine Kd.C_alloc ?_ _) | (with_reducible refine Kd.C_drewN ?_ _) | (with_reducible refine Kd.C_drew ?_)))
       (case side5 => repeat (first | exact (Kd.C_below HR0_12.out HB.out) | (with_reducible refine Kd.C_alloc ?_ _) | (with_reducible refine Kd.C_drewN ?_ _) | (with_reducible refine Kd.C_drew ?_)))
       (case side7 => repeat (first | exact (Kd.C_below HR0_13.out HB.out) | (with_reducible refine Kd.C_alloc ?_ _) | (with_reducible refine Kd.C_drewN ?_ _) | (with_reducible refine Kd.C_drew ?_)))
       rintro e w28 ⟨rfl, hb⟩
       refine ⟨_, rfl, ?_⟩
       replace BK401 := am_ (blk_below (by (with_reducible repeat (first | apply kn_ | apply kd_ | apply ka_)); exact BK401.out) hb)
       replace HB := am_ (below_step (by repeat (first | (with_reducible first | exact HB.out | apply ba_ | apply bn_ | apply bd_ | refine bs_ ?_ GE401.out) | exact HB.out)) hb)
       (try clear hb)
       (try clear hb2)
       (try clear hk)
       (try clear hi)
       refine hK.out _ _ (cells_14 BK401.out) (fun hHeld => ?_)
       clear hK K
       refine nor_ 16 ?_
       refine oon_ 7 (some 20) rfl rfl (one_of HT_.out (by kernel_rfl)) (fun K hK => ?_)
       refine gos_ Try.func15 (r33_Units.calls k a0_0 a0_1 a0_2 a0_3 a0_4 a0_5 a0_6 a0_7 a0_8 a0_9 _ _ l0_10 _ _ l0_11 _ _ l0_12 _ _ l0_13 a1 a2 _ _ ?side1 HC0_10.out ?side3 HC0_11.out ?side5 HC0_12.out ?side7 HC0_13.out A8.out) ?_
       (case side1 => repeat (first | exact (Kd.C_below HR0_10.out HB.out) | (with_reducible refine Kd.C_alloc ?_ _) | (with_reducible refine Kd.C_drewN ?_ _) | (with_reducible refine Kd.C_drew ?_)))
       (case side3 => repeat (first | exact (Kd.C_below HR0_11.out HB.out) | (with_reducible refine Kd.C_alloc ?_ _) | (with_reducible refine Kd.C_drewN ?_ _) | (with_reducible refine Kd.C_drew ?_)))
       (case side5 => repeat (first | exact (Kd.C_below HR0_12.out HB.out) | (with_reducible refine Kd.C_alloc ?_ _) | (with_reducible refine Kd.C_drewN ?_ _) | (with_reducible refine Kd.C_drew ?_)))
       (case side7 => repeat (first | exact (Kd.C_below HR0_13.out HB.out) | (with_reducible refine Kd.C_alloc ?_ _) | (with_reducible refine Kd.C_drewN ?_ _) | (with_reducible refine Kd.C_drew ?_)))
       rintro e w29 ⟨rfl, hb⟩
       refine ⟨_, rfl, ?_⟩
       replace BK401 := am_ (blk_below (by (with_reducible repeat (first | apply kn_ | apply kd_ | apply ka_)); exact BK401.out) hb)
       replace HB := am_ (below_step (by repeat (first | (with_reducible first | exact HB.out | apply ba_ | apply bn_ | apply bd_ | refine bs_ ?_ GE401.out) | exact HB.out)) hb)
       (try clear hb)
       (try clear hb2)
       (try clear hk)
       (try clear hi)
       refine hK.out _ _ (cells_14 BK401.out) (fun hHeld => ?_)
       clear hK K
       refine nor_ 20 ?_
       refine pur_ 8 (some 21) rfl rfl (any_of HT_.out (by kernel_rfl)) ?_
       refine pur_ 9 (some 22) rfl rfl (any_of HT_.out (by kernel_rfl)) ?_
       refine pur_ 11 (some 24) rfl rfl (any_of HT_.out (by kernel_rfl)) ?_
       refine pur_ 12 (some 25) rfl rfl (any_of HT_.out (by kernel_rfl)) ?_
       refine pur_ 13 (some 26) rfl rfl (any_of HT_.out (by kernel_rfl)) ?_
       refine pur_ 16 (some 29) rfl rfl (any_of HT_.out (by kernel_rfl)) ?_
       refine pur_ 17 (some 30) rfl rfl (any_of HT_.out (by kernel_rfl)) ?_
       refine pur_ 18 (some 31) rfl rfl (any_of HT_.out (by kernel_rfl)) ?_
       refine tak_ 10 (some 23) rfl rfl (take_ofW HT_.out HW_.out (by kernel_rfl)) hHeld ?_ (by rintro w' ⟨s0, s1, s2, s3, s4, s5, s6, s7, s8, s9, s10, s11, s12, s13⟩; (first | (refine load_cells_14 (ty := 28) (x := .tmp 4) (g := gb401) ?hlo_ ?hx_ Try.underlying28 ?hd_ ?hi_ s0 s1 s2 s3 s4 s5 s6 s7 s8 s9 s10 s11 s12 s13; (case hlo_ => rfl); (case hx_ => rfl); (case hd_ => rfl); (case hi_ => kernel_rfl)) | (go_simp; with_reducible rfl)))
       refine tak_ 15 (some 28) rfl rfl (take_ofW HT_.out HW_.out (by kernel_rfl)) hHeld ?_ (by rintro w' ⟨s0, s1, s2, s3, s4, s5, s6, s7, s8, s9, s10, s11, s12, s13⟩; (first | (refine load_cells_14 (ty := 28) (x := .tmp 4) (g := gb401) ?hlo_ ?hx_ Try.underlying28 ?hd_ ?hi_ s0 s1 s2 s3 s4 s5 s6 s7 s8 s9 s10 s11 s12 s13; (case hlo_ => rfl); (case hx_ => rfl); (case hd_ => rfl); (case hi_ => kernel_rfl)) | (go_simp; with_reducible rfl)))
       refine oon_ 14 (some 27) rfl rfl (one_of HT_.out (by kernel_rfl)) (fun K hK => ?_)
       refine gos_ Try.func16 (script_Delay.calls k a0_0 a0_1 a0_2 a0_3 a0_4 a0_5 a0_6 a0_7 a0_8 a0_9 _ _ l0_10 _ _ l0_11 _ _ l0_12 _ _ l0_13 a1 a2 a3 t406 _ ?side1 HC0_10.out ?side3 HC0_11.out ?side5 HC0_12.out ?side7 HC0_13.out A10.out) ?_
       (case side1 => repeat (first | exact (Kd.C_below HR0_10.out HB.out) | (with_reducible refine Kd.C_alloc ?_ _) | (with_reducible refine Kd.C_drewN ?_ _) | (with_reducible refine Kd.C_drew ?_)))
       (case side3 => repeat (first | exact (Kd.C_below HR0_11.out HB.out) | (with_reducible refine Kd.C_alloc ?_ _) | (with_reducible refine Kd.C_drewN ?_ _) | (with_reducible refine Kd.C_drew ?_)))
       (case side5 => repeat (first | exact (Kd.C_below HR0_12.out HB.out) | (with_reducible refine Kd.C_alloc ?_ _) | (with_reducible refine Kd.C_drewN ?_ _) | (with_reducible refine Kd.C_drew ?_)))
       (case side7 => repeat (first | exact (Kd.C_below HR0_13.out HB.out) | (with_reducible refine Kd.C_alloc ?_ _) | (with_reducible refine Kd.C_drewN ?_ _) | (with_reducible refine Kd.C_drew ?_)))
       rintro e w30 ⟨rfl, hb⟩
       refine ⟨_, rfl, ?_⟩
       replace BK401 := am_ (blk_below (by (with_reducible repeat (first | apply kn_ | apply kd_ | apply ka_)); exact BK401.out) hb)
       replace HB := am_ (below_step (by repeat (first | (with_reducible first | exact HB.out | apply ba_ | apply bn_ | apply bd_ | refine bs_ ?_ GE401.out) | exact HB.out)) hb)
       (try clear hb)
       (try clear hb2)
       (try clear hk)
       (try clear hi)
       refine hK.out _ _ (cells_14 BK401.out) (fun hHeld => ?_)
       clear hK K
       refine nor_ 27 ?_
       refine oon_ 19 (some 32) rfl rfl (one_of HT_.out (by kernel_rfl)) (fun K hK => ?_)
       refine gos_ Try.func17 (r33_Delay.calls k a0_0 a0_1 a0_2 a0_3 a0_4 a0_5 a0_6 a0_7 a0_8 a0_9 _ _ l0_10 _ _ l0_11 _ _ l0_12 _ _ l0_13 a1 a2 a3 _ _ ?side1 HC0_10.out ?side3 HC0_11.out ?side5 HC0_12.out ?side7 HC0_13.out A11.out) ?_
       (case side1 => repeat (first | exact (Kd.C_below HR0_10.out HB.out) | (with_reducible refine Kd.C_alloc ?_ _) | (with_reducible refine Kd.C_drewN ?_ _) | (with_reducible refine Kd.C_drew ?_)))
       (case side3 => repeat (first | exact (Kd.C_below HR0_11.out HB.out) | (with_reducible refine Kd.C_alloc ?_ _) | (with_reducible refine Kd.C_drewN ?_ _) | (with_reducible refine Kd.C_drew ?_)))
       (case side5 => repeat (first | exact (Kd.C_below HR0_12.out HB.out) | (with_reducible refine Kd.C_alloc ?_ _) | (with_reducible refine Kd.C_drewN ?_ _) | (with_reducible refine Kd.C_drew ?_)))
       (case side7 => repeat (first | exact (Kd.C_below HR0_13.out HB.out) | (with_reducible refine Kd.C_alloc ?_ _) | (with_reducible refine Kd.C_drewN ?_ _) | (with_reducible refine Kd.C_drew ?_)))
       rintro e w31 ⟨rfl, hb⟩
       refine ⟨_, rfl, ?_⟩
       replace BK401 := am_ (blk_below (by (with_reducible repeat (first | apply kn_ | apply kd_ | apply ka_)); exact BK401.out) hb)
       replace HB := am_ (below_step (by repeat (first | (with_reducible first | exact HB.out | apply ba_ | apply bn_ | apply bd_ | refine bs_ ?_ GE401.out) | exact HB.out)) hb)
       (try clear hb)
       (try clear hb2)
       (try clear hk)
       (try clear hi)
       refine hK.out _ _ (cells_14 BK401.out) (fun hHeld => ?_)
       clear hK K
       refine nor_ 32 ?_
       refine pur_ 20 (some 33) rfl rfl (any_of HT_.out (by kernel_rfl)) ?_
       refine pur_ 21 (some 34) rfl rfl (any_of HT_.out (by kernel_rfl)) ?_
       refine pur_ 22 (some 35) rfl rfl (any_of HT_.out (by kernel_rfl)) ?_
       refine pur_ 24 (some 37) rfl rfl (any_of HT_.out (by kernel_rfl)) ?_
       refine pur_ 27 (some 40) rfl rfl (any_of HT_.out (by kernel_rfl)) ?_
       refine tak_ 23 (some 36) rfl rfl (take_ofW HT_.out HW_.out (by kernel_rfl)) hHeld ?_ (by rintro w' ⟨s0, s1, s2, s3, s4, s5, s6, s7, s8, s9, s10, s11, s12, s13⟩; (first | (refine load_cells_14 (ty := 28) (x := .tmp 4) (g := gb401) ?hlo_ ?hx_ Try.underlying28 ?hd_ ?hi_ s0 s1 s2 s3 s4 s5 s6 s7 s8 s9 s10 s11 s12 s13; (case hlo_ => rfl); (case hx_ => rfl); (case hd_ => rfl); (case hi_ => kernel_rfl)) | (go_simp; with_reducible rfl)))
       refine tak_ 26 (some 39) rfl rfl (take_ofW HT_.out HW_.out (by kernel_rfl)) hHeld ?_ (by rintro w' ⟨s0, s1, s2, s3, s4, s5, s6, s7, s8, s9, s10, s11, s12, s13⟩; (first | (refine load_cells_14 (ty := 28) (x := .tmp 4) (g := gb401) ?hlo_ ?hx_ Try.underlying28 ?hd_ ?hi_ s0 s1 s2 s3 s4 s5 s6 s7 s8 s9 s10 s11 s12 s13; (case hlo_ => rfl); (case hx_ => rfl); (case hd_ => rfl); (case hi_ => kernel_rfl)) | (go_simp; with_reducible rfl)))
       refine oon_ 25 (some 38) rfl rfl (one_of HT_.out (by kernel_rfl)) (fun K hK => ?_)
       refine gos_ Try.func18 (script_Image.calls k a0_0 a0_1 a0_2 a0_3 a0_4 a0_5 a0_6 a0_7 a0_8 a0_9 _ _ l0_10 _ _ l0_11 _ _ l0_12 _ _ l0_13 a2 t408 _ ?side1 HC0_10.out ?side3 HC0_11.out ?side5 HC0_12.out ?side7 HC0_13.out A13.out) ?_
       (case side1 => repeat (first | exact (Kd.C_below HR0_10.out HB.out) | (with_reducible refine Kd.C_alloc ?_ _) | (with_reducible refine Kd.C_drewN ?_ _) | (with_reducible refine Kd.C_drew ?_)))
       (case side3 => repeat (first | exact (Kd.C_below HR0_11.out HB.out) | (with_reducible refine Kd.C_alloc ?_ _) | (with_reducible refine Kd.C_drewN ?_ _) | (with_reducible refine Kd.C_drew ?_)))
       (case side5 => repeat (first | exact (Kd.C_below HR0_12.out HB.out) | (with_reducible refine Kd.C_alloc ?_ _) | (with_reducible refine Kd.C_drewN ?_ _) | (with_reducible refine Kd.C_drew ?_)))
       (case side7 => repeat (first | exact (Kd.C_below HR0_13.out HB.out) | (with_reducible refine Kd.C_alloc ?_ _) | (with_reducible refine Kd.C_drewN ?_ _) | (with_reducible refine Kd.C_drew ?_)))
       rintro e w32 ⟨rfl, hb⟩
       refine ⟨_, rfl, ?_⟩
       replace BK401 := am_ (blk_below (by (with_reducible repeat (first | apply kn_ | apply kd_ | apply ka_)); exact BK401.out) hb)
       replace HB := am_ (below_step (by repeat (first | (with_reducible first | exact HB.out | apply ba_ | apply bn_ | apply bd_ | refine bs_ ?_ GE401.out) | exact HB.out)) hb)
       (try clear hb)
       (try clear hb2)
       (try clear hk)
       (try clear hi)
       refine hK.out _ _ (cells_14 BK401.out) (fun hHeld => ?_)
       clear hK K
       refine nor_ 38 ?_
       refine oon_ 28 (some 41) rfl rfl (one_of HT_.out (by kernel_rfl)) (fun K hK => ?_)
       refine gos_ Try.func19 (r33_Image.calls a0_0 a0_1 a0_2 a0_3 a0_4 a0_5 a0_6 a0_7 a0_8 a0_9 _ _ l0_10 _ _ l0_11 _ _ l0_12 _ _ l0_13 a2 t409 _ ?side1 HC0_10.out ?side3 HC0_11.out ?side5 HC0_12.out ?side7 HC0_13.out A14.out) ?_
       (case side1 => repeat (first | exact (Kd.C_below HR0_10.out HB.out) | (with_reducible refine Kd.C_alloc ?_ _) | (with_reducible refine Kd.C_drewN ?_ _) | (with_reducible refine Kd.C_drew ?_)))
       (case side3 => repeat (first | exact (Kd.C_below HR0_11.out HB.out) | (with_reducible refine Kd.C_alloc ?_ _) | (with_reducible refine Kd.C_drewN ?_ _) | (with_reducible refine Kd.C_drew ?_)))
       (case side5 => repeat (first | exact (Kd.C_below HR0_12.out HB.out) | (with_reducible refine Kd.C_alloc ?_ _) | (with_reducible refine Kd.C_drewN ?_ _) | (with_reducible refine Kd.C_drew ?_)))
       (case side7 => repeat (first | exact (Kd.C_below HR0_13.out HB.out) | (with_reducible refine Kd.C_alloc ?_ _) | (with_reducible refine Kd.C_drewN ?_ _) | (with_reducible refine Kd.C_drew ?_)))
       rintro e w33 ⟨rfl, hb⟩
       refine ⟨_, rfl, ?_⟩
       replace BK401 := am_ (blk_below (by (with_reducible repeat (first | apply kn_ | apply kd_ | apply ka_)); exact BK401.out) hb)
       replace HB := am_ (below_step (by repeat (first | (with_reducible first | exact HB.out | apply ba_ | apply bn_ | apply bd_ | refine bs_ ?_ GE401.out) | exact HB.out)) hb)
       (try clear hb)
       (try clear hb2)
       (try clear hk)
       (try clear hi)
       refine hK.out _ _ (cells_14 BK401.out) (fun hHeld => ?_)
       clear hK K
       refine nor_ 41 ?_
       refine pur_ 29 (some 42) rfl rfl (any_of HT_.out (by kernel_rfl)) ?_
       refine pur_ 30 (some 43) rfl rfl (any_of HT_.out (by kernel_rfl)) ?_
       refine pur_ 31 (some 44) rfl rfl (any_of HT_.out (by kernel_rfl)) ?_
       refine pur_ 33 (some 46) rfl rfl (any_of HT_.out (by kernel_rfl)) ?_
       refine pur_ 36 (some 49) rfl rfl (any_of HT_.out (by kernel_rfl)) ?_
       refine tak_ 32 (some 45) rfl rfl (take_ofW HT_.out HW_.out (by kernel_rfl)) hHeld ?_ (by rintro w' ⟨s0, s1, s2, s3, s4, s5, s6, s7, s8, s9, s10, s11, s12, s13⟩; (first | (refine load_cells_14 (ty := 28) (x := .tmp 4) (g := gb401) ?hlo_ ?hx_ Try.underlying28 ?hd_ ?hi_ s0 s1 s2 s3 s4 s5 s6 s7 s8 s9 s10 s11 s12 s13; (case hlo_ => rfl); (case hx_ => rfl); (case hd_ => rfl); (case hi_ => kernel_rfl)) | (go_simp; with_reducible rfl)))
       refine tak_ 35 (some 48) rfl rfl (take_ofW HT_.out HW_.out (by kernel_rfl)) hHeld ?_ (by rintro w' ⟨s0, s1, s2, s3, s4, s5, s6, s7, s8, s9, s10, s11, s12, s13⟩; (first | (refine load_cells_14 (ty := 28) (x := .tmp 4) (g := gb401) ?hlo_ ?hx_ Try.underlying28 ?hd_ ?hi_ s0 s1 s2 s3 s4 s5 s6 s7 s8 s9 s10 s11 s12 s13; (case hlo_ => rfl); (case hx_ => rfl); (case hd_ => rfl); (case hi_ => kernel_rfl)) | (go_simp; with_reducible rfl)))
       refine oon_ 34 (some 47) rfl rfl (one_of HT_.out (by kernel_rfl)) (fun K hK => ?_)
       refine gos_ Try.func20 (script_Faulty.calls k a0_0 a0_1 a0_2 a0_3 a0_4 a0_5 a0_6 a0_7 a0_8 a0_9 _ _ l0_10 _ _ l0_11 _ _ l0_12 _ _ l0_13 a2 t410 _ ?side1 HC0_10.out ?side3 HC0_11.out ?side5 HC0_12.out ?side7 HC0_13.out A16.out) ?_
       (case side1 => repeat (first | exact (Kd.C_below HR0_10.out HB.out) | (with_reducible refine Kd.C_alloc ?_ _) | (with_reducible refine Kd.C_drewN ?_ _) | (with_reducible refine Kd.C_drew ?_)))
       (case side3 => repeat (first | exact (Kd.C_below HR0_11.out HB.out) | (with_reducible refine Kd.C_alloc ?_ _) | (with_reducible refine Kd.C_drewN ?_ _) | (with_reducible refine Kd.C_drew ?_)))
       (case side5 => repeat (first | exact (Kd.C_below HR0_12.out HB.out) | (with_reducible refine Kd.C_alloc ?_ _) | (with_reducible refine Kd.C_drewN ?_ _) | (with_reducible refine Kd.C_drew ?_)))
       (case side7 => repeat (first | exact (Kd.C_below HR0_13.out HB.out) | (with_reducible refine Kd.C_alloc ?_ _) | (with_reducible refine Kd.C_drewN ?_ _) | (with_reducible refine Kd.C_drew ?_)))
       rintro e w34 ⟨rfl, hb⟩
       refine ⟨_, rfl, ?_⟩
       replace BK401 := am_ (blk_below (by (with_reducible repeat (first | apply kn_ | apply kd_ | apply ka_)); exact BK401.out) hb)
       replace HB := am_ (below_step (by repeat (first | (with_reducible first | exact HB.out | apply ba_ | apply bn_ | apply bd_ | refine bs_ ?_ GE401.out) | exact HB.out)) hb)
       (try clear hb)
       (try clear hb2)
       (try clear hk)
       (try clear hi)
       refine hK.out _ _ (cells_14 BK401.out) (fun hHeld => ?_)
       clear hK K
       refine nor_ 47 ?_
       refine oon_ 37 (some 50) rfl rfl (one_of HT_.out (by kernel_rfl)) (fun K hK => ?_)
       refine gos_ Try.func21 (r33_Faulty.calls k a0_0 a0_1 a0_2 a0_3 a0_4 a0_5 a0_6 a0_7 a0_8 a0_9 _ _ l0_10 _ _ l0_11 _ _ l0_12 _ _ l0_13 a2 t411 _ ?side1 HC0_10.out ?side3 HC0_11.out ?side5 HC0_12.out ?side7 HC0_13.out A17.out) ?_
       (case side1 => repeat (first | exact (Kd.C_below HR0_10.out HB.out) | (with_reducible refine Kd.C_alloc ?_ _) | (with_reducible refine Kd.C_drewN ?_ _) | (with_reducible refine Kd.C_drew ?_)))
       (case side3 => repeat (first | exact (Kd.C_below HR0_11.out HB.out) | (with_reducible refine Kd.C_alloc ?_ _) | (with_reducible refine Kd.C_drewN ?_ _) | (with_reducible refine Kd.C_drew ?_)))
       (case side5 => repeat (first | exact (Kd.C_below HR0_12.out HB.out) | (with_reducible refine Kd.C_alloc ?_ _) | (with_reducible refine Kd.C_drewN ?_ _) | (with_reducible refine Kd.C_drew ?_)))
       (case side7 => repeat (first | exact (Kd.C_below HR0_13.out HB.out) | (with_reducible refine Kd.C_alloc ?_ _) | (with_reducible refine Kd.C_drewN ?_ _) | (with_reducible refine Kd.C_drew ?_)))
       rintro e w35 ⟨rfl, hb⟩
       refine ⟨_, rfl, ?_⟩
       replace BK401 := am_ (blk_below (by (with_reducible repeat (first | apply kn_ | apply kd_ | apply ka_)); exact BK401.out) hb)
       replace HB := am_ (below_step (by repeat (first | (with_reducible first | exact HB.out | apply ba_ | apply bn_ | apply bd_ | refine bs_ ?_ GE401.out) | exact HB.out)) hb)
       (try clear hb)
       (try clear hb2)
       (try clear hk)
       (try clear hi)
       refine hK.out _ _ (cells_14 BK401.out) (fun hHeld => ?_)
       clear hK K
       refine nor_ 50 ?_
       refine pur_ 38 (some 51) rfl rfl (any_of HT_.out (by kernel_rfl)) ?_
       refine pur_ 39 (some 52) rfl rfl (any_of HT_.out (by kernel_rfl)) ?_
       refine pur_ 40 (some 53) rfl rfl (any_of HT_.out (by kernel_rfl)) ?_
       refine tak_ 41 (some 54) rfl rfl (take_ofW HT_.out HW_.out (by kernel_rfl)) hHeld ?_ (by rintro w' ⟨s0, s1, s2, s3, s4, s5, s6, s7, s8, s9, s10, s11, s12, s13⟩; (first | (refine load_cells_14 (ty := 28) (x := .tmp 4) (g := gb401) ?hlo_ ?hx_ Try.underlying28 ?hd_ ?hi_ s0 s1 s2 s3 s4 s5 s6 s7 s8 s9 s10 s11 s12 s13; (case hlo_ => rfl); (case hx_ => rfl); (case hd_ => rfl); (case hi_ => kernel_rfl)) | (go_simp; with_reducible rfl)))
       refine tak_ 43 (some 56) rfl rfl (take_ofW HT_.out HW_.out (by kernel_rfl)) hHeld ?_ (by rintro w' ⟨s0, s1, s2, s3, s4, s5, s6, s7, s8, s9, s10, s11, s12, s13⟩; (first | (refine load_cells_14 (ty := 28) (x := .tmp 4) (g := gb401) ?hlo_ ?hx_ Try.underlying28 ?hd_ ?hi_ s0 s1 s2 s3 s4 s5 s6 s7 s8 s9 s10 s11 s12 s13; (case hlo_ => rfl); (case hx_ => rfl); (case hd_ => rfl); (case hi_ => kernel_rfl)) | (go_simp; with_reducible rfl)))
       refine oon_ 42 (some 55) rfl rfl (one_of HT_.out (by kernel_rfl)) (fun K hK => ?_)
       refine gos_ Try.func23 (script_Honest.calls k a0_0 a0_1 a0_2 a0_3 a0_4 a0_5 a0_6 a0_7 a0_8 a0_9 _ _ l0_10 _ _ l0_11 _ _ l0_12 _ _ l0_13 _ _ ?side1 HC0_10.out ?side3 HC0_11.out ?side5 HC0_12.out ?side7 HC0_13.out A19.out) ?_
       (case side1 => repeat (first | exact (Kd.C_below HR0_10.out HB.out) | (with_reducible refine Kd.C_alloc ?_ _) | (with_reducible refine Kd.C_drewN ?_ _) | (with_reducible refine Kd.C_drew ?_)))
       (case side3 => repeat (first | exact (Kd.C_below HR0_11.out HB.out) | (with_reducible refine Kd.C_alloc ?_ _) | (with_reducible refine Kd.C_drewN ?_ _) | (with_reducible refine Kd.C_drew ?_)))
       (case side5 => repeat (first | exact (Kd.C_below HR0_12.out HB.out) | (with_reducible refine Kd.C_alloc ?_ _) | (with_reducible refine Kd.C_drewN ?_ _) | (with_reducible refine Kd.C_drew ?_)))
       (case side7 => repeat (first | exact (Kd.C_below HR0_13.out HB.out) | (with_reducible refine Kd.C_alloc ?_ _) | (with_reducible refine Kd.C_drewN ?_ _) | (with_reducible refine Kd.C_drew ?_)))
       rintro e w36 ⟨v413, rfl, ho0, hb⟩
       refine ⟨_, rfl, ?_⟩
       have q0_ := below_of hb (by repeat (first | (with_reducible first | exact HB.out | apply ba_ | apply bn_ | apply bd_ | refine bs_ ?_ GE401.out) | exact HB.out))
       have HO414 := am_ (Kd.R_lower ho0 (below_size q0_))
       replace BK401 := am_ (blk_below (by (with_reducible repeat (first | apply kn_ | apply kd_ | apply ka_)); exact BK401.out) hb)
       replace HB := am_ (below_step q0_ hb)
       clear q0_
       (try clear hb)
       (try clear hb2)
       (try clear hk)
       (try clear hi)
       (try clear ho0)
       refine hK.out _ _ (cells_14 BK401.out) (fun hHeld => ?_)
       clear hK K
       refine nor_ 55 ?_
       refine oon_ 44 (some 57) rfl rfl (one_of HT_.out (by kernel_rfl)) (fun K hK => ?_)
       refine gos_ Try.func24 (r33_Honest.calls k a0_0 a0_1 a0_2 a0_3 a0_4 a0_5 a0_6 a0_7 a0_8 a0_9 _ _ l0_10 _ _ l0_11 _ _ l0_12 _ _ l0_13 t415 _ ?side1 HC0_10.out ?side3 HC0_11.out ?side5 HC0_12.out ?side7 HC0_13.out A20.out) ?_
       (case side1 => repeat (first | exact (Kd.C_below HR0_10.out HB.out) | (with_reducible refine Kd.C_alloc ?_ _) | (with_reducible refine Kd.C_drewN ?_ _) | (with_reducible refine Kd.C_drew ?_)))
       (case side3 => repeat (first | exact (Kd.C_below HR0_11.out HB.out) | (with_reducible refine Kd.C_alloc ?_ _) | (with_reducible refine Kd.C_drewN ?_ _) | (with_reducible refine Kd.C_drew ?_)))
       (case side5 => repeat (first | exact (Kd.C_below HR0_12.out HB.out) | (with_reducible refine Kd.C_alloc ?_ _) | (with_reducible refine Kd.C_drewN ?_ _) | (with_reducible refine Kd.C_drew ?_)))
       (case side7 => repeat (first | exact (Kd.C_below HR0_13.out HB.out) | (with_reducible refine Kd.C_alloc ?_ _) | (with_reducible refine Kd.C_drewN ?_ _) | (with_reducible refine Kd.C_drew ?_)))
       rintro e w37 ⟨v416, rfl, ho0, hb⟩
       refine ⟨_, rfl, ?_⟩
       have q0_ := below_of hb (by repeat (first | (with_reducible first | exact HB.out | apply ba_ | apply bn_ | apply bd_ | refine bs_ ?_ GE401.out) | exact HB.out))
       have HO417 := am_ (Kd.R_lower (Kd.R_new' ho0 (Kd.R_lt (by (with_reducible repeat (first | apply Kd.R_alloc | apply Kd.R_drewN | apply Kd.R_drew)); exact HO414.out))) (below_size q0_))
       replace HO414 := am_ (Kd.R_elder' (by (with_reducible repeat (first | apply Kd.R_alloc | apply Kd.R_drewN | apply Kd.R_drew)); exact HO414.out) (Kd.R_base ho0) hb)
       replace BK401 := am_ (blk_below (by (with_reducible repeat (first | apply kn_ | apply kd_ | apply ka_)); exact BK401.out) hb)
       replace HB := am_ (below_step q0_ hb)
       clear q0_
       (try clear hb)
       (try clear hb2)
       (try clear hk)
       (try clear hi)
       (try clear ho0)
       obtain ⟨Ao38, co38, eo38⟩ := Kd.R_slice HO414.out
       (first | subst eo38 | (injection eo38 with f1_ f2_ f3_; have f4_ := f1_.symm; have f5_ := f3_.symm; clear f1_ f2_ f3_; subst f4_; subst f5_))
       obtain ⟨Ao39, co39, eo39⟩ := Kd.R_slice HO417.out
       (first | subst eo39 | (injection eo39 with f1_ f2_ f3_; have f4_ := f1_.symm; have f5_ := f3_.symm; clear f1_ f2_ f3_; subst f4_; subst f5_))
       refine hK.out _ _ (cells_14 BK401.out) (fun hHeld => ?_)
       clear hK K
       refine nor_ 57 ?_
       refine oon_ 45 (some 58) rfl rfl (one_of HT_.out (by kernel_rfl)) (fun K hK => ?_)
       refine gos_ Try.func22 (r06_Ints.calls k _ _ t412 _ _ t415 _ _ ?side1 (Kd.R_reads' HO414.out).2.1 ?side3 (Kd.R_reads' HO417.out).2.1 A21.out) ?_
       (case side1 => repeat (first | exact (Kd.R_reads' HO414.out).2.2 | (with_reducible refine Kd.C_alloc ?_ _) | (with_reducible refine Kd.C_drewN ?_ _) | (with_reducible refine Kd.C_drew ?_)))
       (case side3 => repeat (first | exact (Kd.R_reads' HO417.out).2.2 | (with_reducible refine Kd.C_alloc ?_ _) | (with_reducible refine Kd.C_drewN ?_ _) | (with_reducible refine Kd.C_drew ?_)))
       rintro e w' ⟨rfl, ⟨nd, rfl⟩⟩
       refine ⟨_, rfl, ?_⟩
       refine hK.out _ _ (cells_14 BK401.out) (fun hHeld => ?_)
       clear hK K
       refine nor_ 58 ?_
       refine pur_ 46 (some 59) rfl rfl (any_of HT_.out (by kernel_rfl)) ?_
       refine pur_ 47 (some 60) rfl rfl (any_of HT_.out (by kernel_rfl)) ?_
       refine oon_ 48 (some 61) rfl rfl (one_of HT_.out (by kernel_rfl)) (fun K hK => ?_)
       refine gos_ Try.func11 (l33_known.calls k  _ _ A23.out) ?_
       rintro e w40 ⟨rfl, hb⟩
       refine ⟨_, rfl, ?_⟩
       replace HO414 := am_ (Kd.R_below (by (with_reducible repeat (first | apply Kd.R_alloc | apply Kd.R_drewN | apply Kd.R_drew)); exact HO414.out) hb)
       replace HO417 := am_ (Kd.R_below (by (with_reducible repeat (first | apply Kd.R_alloc | apply Kd.R_drewN | apply Kd.R_drew)); exact HO417.out) hb)
       replace BK401 := am_ (blk_below (by (with_reducible repeat (first | apply kn_ | apply kd_ | apply ka_)); exact BK401.out) hb)
       replace HB := am_ (below_step (by repeat (first | (with_reducible first | exact HB.out | apply ba_ | apply bn_ | apply bd_ | refine bs_ ?_ GE401.out) | exact HB.out)) hb)
       (try clear hb)
       (try clear hb2)
       (try clear hk)
       (try clear hi)
       refine hK.out _ _ (cells_14 BK401.out) (fun hHeld => ?_)
       clear hK K
       refine nor_ 61 ?_
       refine pur_ 49 (some 62) rfl rfl (any_of HT_.out (by kernel_rfl)) ?_
       refine pur_ 50 (some 8) rfl rfl (any_of HT_.out (by kernel_rfl)) ?_
       refine done_ (done_of HT_.out (by kernel_rfl)) ?_
       try go_wp2
       go_ret
       exact ⟨by first | rfl | (simp [*] <;> rfl), by repeat (first | (with_reducible first | exact HB.out | apply ba_ | apply bn_ | apply bd_ | refine bs_ ?_ GE401.out) | exact HB.out)⟩
      ·replace c22 := Bool.eq_false_iff.mpr c22
       subst c22
       rw [if_neg (show ¬ (false = true) by decide)] at H
       exact absurd H (by simp)
     ·rw [if_neg c18] at H
      have c18b0 : (t410 == t411) = false := by simpa using c18
      (try (have c18b1 : decide (t410 = t411) = false := by simpa using c18))
      (try (have c18b2 : (t410 == t411) = false := by simpa using c18))
      (try (have c18b3 : ¬ (t410 = t411) := by simpa using c18))
      clear c18
      exact absurd H (by simp)
    ·rw [if_neg c15] at H
     have c15b0 : (t408.toList == t409.toList) = false := beq_eq_false_iff_ne.mpr c15
     have c15b1 : (t408.toList != t409.toList) = true := bne_iff_ne.mpr c15
     exact absurd H (by simp)
   ·rw [if_neg c12] at H
    have c12b0 : (t406 == t407) = false := beq_eq_false_iff_ne.mpr c12
    have c12b1 : (t406 != t407) = true := bne_iff_ne.mpr c12
    exact absurd H (by simp)
  ·rw [if_neg c9] at H
   have c9b0 : (t404 == t405) = false := beq_eq_false_iff_ne.mpr c9
   have c9b1 : (t404 != t405) = true := bne_iff_ne.mpr c9
   exact absurd H (by simp)
 ·replace c6 := Bool.eq_false_iff.mpr c6
  subst c6
  rw [if_neg (show ¬ (false = true) by decide)] at H
  replace H := Option.bind_eq_some_iff.mp H
  obtain ⟨t403, A410, H⟩ := H
  replace H : (some t403) = some r := H
  have A41 := am_ A410
  clear A410
  obtain rfl := Option.some.inj H
  go_enter Try.func4, Try.ntmps4
  go_wp2_with (first | ((with_reducible refine gate_load (t := 28) (x := .tmp 4) rfl ?_); refine lrg_ 28 (.tmp 4) gb401 28 (by (with_reducible repeat (first | apply kn_ | apply kd_ | apply ka_)); exact BK401.out) Try.underlying28 ?_) | ((with_reducible refine gate_dst (N := 4) rfl ?_); refine bxe_ 4 28 #[.int .i64 a0_0, .int .i64 a0_1, .int .i64 a0_2, .int .i64 a0_3, .int .i64 a0_4, .int .i64 a0_5, .int .i64 a0_6, .int .i64 a0_7, .int .i64 a0_8, .int .i64 a0_9, .slice A0_10 l0_10.length c0_10, .slice A0_11 l0_11.length c0_11, .slice A0_12 l0_12.length c0_12, .slice A0_13 l0_13.length c0_13] ?_; intro gb401 hg w42 hbox hb; have q0_ := below_of hb (by repeat (first | (with_reducible first | exact HB.out | apply ba_ | apply bn_ | apply bd_) | exact HB.out)); have BK401 := am_ (hbox); have GW401 := am_ ((by rw [hg]; exact (below_size q0_) : w.heap.size ≤ gb401)); have GE401 := GW401; replace HB := am_ (below_step q0_ hb); clear q0_; clear hb hbox hg; have hall3_ := cells_14 BK401.out; have hall4_ := frozen_14 BK401.out) | ((with_reducible refine gate_callee (f := 10) rfl ?_); refine gom_ (some 10) Try.func10 (r33_Few.calls k a0_0 a0_1 a0_2 a0_3 a0_4 a0_5 a0_6 a0_7 a0_8 a0_9 _ _ l0_10 _ _ l0_11 _ _ l0_12 _ _ l0_13 2100 _ _ ?side1 HC0_10.out ?side3 HC0_11.out ?side5 HC0_12.out ?side7 HC0_13.out A5.out) ?_; (case side1 => repeat (first | exact (Kd.C_below HR0_10.out HB.out) | (with_reducible refine Kd.C_alloc ?_ _) | (with_reducible refine Kd.C_drewN ?_ _) | (with_reducible refine Kd.C_drew ?_))); (case side3 => repeat (first | exact (Kd.C_below HR0_11.out HB.out) | (with_reducible refine Kd.C_alloc ?_ _) | (with_reducible refine Kd.C_drewN ?_ _) | (with_reducible refine Kd.C_drew ?_))); (case side5 => repeat (first | exact (Kd.C_below HR0_12.out HB.out) | (with_reducible refine Kd.C_alloc ?_ _) | (with_reducible refine Kd.C_drewN ?_ _) | (with_reducible refine Kd.C_drew ?_))); (case side7 => repeat (first | exact (Kd.C_below HR0_13.out HB.out) | (with_reducible refine Kd.C_alloc ?_ _) | (with_reducible refine Kd.C_drewN ?_ _) | (with_reducible refine Kd.C_drew ?_))); rintro e w44 ⟨rfl, hb⟩; refine ⟨_, rfl, ?_⟩; replace BK401 := am_ (blk_below (by (with_reducible repeat (first | apply kn_ | apply kd_ | apply ka_)); exact BK401.out) hb); replace HB := am_ (below_step (by repeat (first | (with_reducible first | exact HB.out | apply ba_ | apply bn_ | apply bd_ | refine bs_ ?_ GE401.out) | exact HB.out)) hb); (try clear hb)) | ((with_reducible refine gate_callee (f := 11) rfl ?_); refine gom_ (some 12) Try.func11 (l33_known.calls k  _ _ A41.out) ?_; rintro e w45 ⟨rfl, hb⟩; refine ⟨_, rfl, ?_⟩; replace BK401 := am_ (blk_below (by (with_reducible repeat (first | apply kn_ | apply kd_ | apply ka_)); exact BK401.out) hb); replace HB := am_ (below_step (by repeat (first | (with_reducible first | exact HB.out | apply ba_ | apply bn_ | apply bd_ | refine bs_ ?_ GE401.out) | exact HB.out)) hb); (try clear hb)))
  go_ret
  exact ⟨by first | rfl | (simp [*] <;> rfl), by repeat (first | (with_reducible first | exact HB.out | apply ba_ | apply bn_ | apply bd_ | refine bs_ ?_ GE401.out) | exact HB.out)⟩
end Go.Proofs.Ythdoghhmooodjaa.Gn
