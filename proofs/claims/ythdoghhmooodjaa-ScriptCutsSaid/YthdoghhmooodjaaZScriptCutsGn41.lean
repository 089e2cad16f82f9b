import Derived.Test.YthdoghhmooodjaaZScriptCutsGn0
import Derived.Test.YthdoghhmooodjaaZScriptCutsGn1
import Derived.Test.YthdoghhmooodjaaZScriptCutsGn2
import Derived.Test.YthdoghhmooodjaaZScriptCutsGn16
import Derived.Test.YthdoghhmooodjaaZScriptCutsGn22
import Derived.Test.YthdoghhmooodjaaZScriptCutsGn63
namespace Go.Proofs.Ythdoghhmooodjaa.Gn
open Go.RowKit Go.Proofs.YthdoghhmooodjaaW.PrintWords Go.Proofs.YthdoghhmooodjaaW.PrintLast Go.Proofs.YthdoghhmooodjaaW.PrintMore
attribute [local go_sem] max2_int min2_int max_two min_two max_three min_three max_four min_four   -- for this text's walks alone
set_option linter.unusedVariables false
set_option linter.unusedSimpArgs false
mutual
def l33_ScriptCuts.j0 : Nat → Int → Int → Bool → Int → Int → Int → Int → Int → Int → Int → Int → Int → Int → List Int → List Int → List ByteArray → List (S44) → Option (Bool)
 | 0, _, _, _, _, _, _, _, _, _, _, _, _, _, _, _, _, _ => none
 | k + 1, x1, x2, x17, x402000, x402001, x402002, x402003, x402004, x402005, x402006, x402007, x402008, x402009, x402010, x402011, x402012, x402013 => if x17 = true then ((l33_known.f k).bind fun t404 => (some t404)) else (if x1 ≥ 0 then (l33_ScriptCuts.j1 k x1 x2 (decide (x1 < (x402013.length : Int))) x402000 x402001 x402002 x402003 x402004 x402005 x402006 x402007 x402008 x402009 x402010 x402011 x402012 x402013 x402000 x402001 x402002 x402003 x402004 x402005 x402006 x402007 x402008 x402009 x402010 x402011 x402012 x402013) else (l33_ScriptCuts.j1 k x1 x2 false x402000 x402001 x402002 x402003 x402004 x402005 x402006 x402007 x402008 x402009 x402010 x402011 x402012 x402013 x402000 x402001 x402002 x402003 x402004 x402005 x402006 x402007 x402008 x402009 x402010 x402011 x402012 x402013))
def l33_ScriptCuts.j1 : Nat → Int → Int → Bool → Int → Int → Int → Int → Int → Int → Int → Int → Int → Int → List Int → List Int → List ByteArray → List (S44) → Int → Int → Int → Int → Int → Int → Int → Int → Int → Int → List Int → List Int → List ByteArray → List (S44) → Option (Bool)
 | 0, _, _, _, _, _, _, _, _, _, _, _, _, _, _, _, _, _, _, _, _, _, _, _, _, _, _, _, _, _, _, _ => none
 | k + 1, x1, x2, x28, x402000, x402001, x402002, x402003, x402004, x402005, x402006, x402007, x402008, x402009, x402010, x402011, x402012, x402013, x406000, x406001, x406002, x406003, x406004, x406005, x406006, x406007, x406008, x406009, x406010, x406011, x406012, x406013 => if x28 = true then (if 0 ≤ x1 then (if x1 ≤ (x402013.length : Int) then (l33_ScriptCuts.j2 k x2 x402000 x402001 x402002 x402003 x402004 x402005 x402006 x402007 x402008 x402009 x402010 x402011 x402012 x402013 x406000 x406001 x406002 x406003 x406004 x406005 x406006 x406007 x406008 x406009 x406010 x406011 x406012 (x402013.take (x1 : Int).toNat)) else (none)) else (none)) else (l33_ScriptCuts.j2 k x2 x402000 x402001 x402002 x402003 x402004 x402005 x402006 x402007 x402008 x402009 x402010 x402011 x402012 x402013 x406000 x406001 x406002 x406003 x406004 x406005 x406006 x406007 x406008 x406009 x406010 x406011 x406012 x406013)
def l33_ScriptCuts.j2 : Nat → Int → Int → Int → Int → Int → Int → Int → Int → Int → Int → Int → List Int → List Int → List ByteArray → List (S44) → Int → Int → Int → Int → Int → Int → Int → Int → Int → Int → List Int → List Int → List ByteArray → List (S44) → Option (Bool)
 | 0, _, _, _, _, _, _, _, _, _, _, _, _, _, _, _, _, _, _, _, _, _, _, _, _, _, _, _, _, _ => none
 | k + 1, x2, x402000, x402001, x402002, x402003, x402004, x402005, x402006, x402007, x402008, x402009, x402010, x402011, x402012, x402013, x406000, x406001, x406002, x406003, x406004, x406005, x406006, x406007, x406008, x406009, x406010, x406011, x406012, x406013 => (script_Right.f k x406000 x406001 x406002 x406003 x406004 x406005 x406006 x406007 x406008 x406009 x406010 x406011 x406012 x406013).bind fun t411 => (if t411 = 0 then (if ([] : List (S44)).length + x406013.length < 977343669134 then ((some (([] : List (S44)) ++ x406013 : List (S44))).bind fun y412 => (if y412.length < 977343669134 then ((some (y412 ++ [(⟨([] : List Int), ([] : List Int), ([] : List (S74)), ([] : List (S48)), ([] : List (S74)), ([] : List (S81))⟩ : S44)] : List (S44))).bind fun y415 => ((script_Right.f k x406000 x406001 x406002 x406003 x406004 x406005 x406006 x406007 x406008 x406009 x406010 x406011 x406012 y415).bind fun t418 => (if t418 = 0 then (if x2 < 0 then (l33_ScriptCuts.j3 k x2 (x406013.length : Int) true x402000 x402001 x402002 x402003 x402004 x402005 x402006 x402007 x402008 x402009 x402010 x402011 x402012 x402013 x406000 x406001 x406002 x406003 x406004 x406005 x406006 x406007 x406008 x406009 x406010 x406011 x406012 y415) else (l33_ScriptCuts.j3 k x2 (x406013.length : Int) (decide (x2 ≥ x402000)) x402000 x402001 x402002 x402003 x402004 x402005 x402006 x402007 x402008 x402009 x402010 x402011 x402012 x402013 x406000 x406001 x406002 x406003 x406004 x406005 x406006 x406007 x406008 x406009 x406010 x406011 x406012 y415)) else (none)))) else (none))) else (none)) else (none))
def l33_ScriptCuts.j3 : Nat → Int → Int → Bool → Int → Int → Int → Int → Int → Int → Int → Int → Int → Int → List Int → List Int → List ByteArray → List (S44) → Int → Int → Int → Int → Int → Int → Int → Int → Int → Int → List Int → List Int → List ByteArray → List (S44) → Option (Bool)
 | 0, _, _, _, _, _, _, _, _, _, _, _, _, _, _, _, _, _, _, _, _, _, _, _, _, _, _, _, _, _, _, _ => none
 | k + 1, x2, x8, x61, x402000, x402001, x402002, x402003, x402004, x402005, x402006, x402007, x402008, x402009, x402010, x402011, x402012, x402013, x406000, x406001, x406002, x406003, x406004, x406005, x406006, x406007, x406008, x406009, x406010, x406011, x406012, x406013 => if x61 = true then ((script_Units.f k x406000 x406001 x406002 x406003 x406004 x406005 x406006 x406007 x406008 x406009 x406010 x406011 x406012 x406013 x8 x2).bind fun t419 => (if t419 = 0 then ((script_Delay.f k x406000 x406001 x406002 x406003 x406004 x406005 x406006 x406007 x406008 x406009 x406010 x406011 x406012 x406013 x8 x2 0).bind fun t420 => (if t420 = 0 then ((l33_known.f k).bind fun t421 => (some t421)) else (none))) else (none))) else ((script_Units.f k x406000 x406001 x406002 x406003 x406004 x406005 x406006 x406007 x406008 x406009 x406010 x406011 x406012 x406013 x8 x2).bind fun t422 => (if t422 = x402004 then ((script_Delay.f k x406000 x406001 x406002 x406003 x406004 x406005 x406006 x406007 x406008 x406009 x406010 x406011 x406012 x406013 x8 x2 0).bind fun t423 => (if t423 = x402002 then ((script_Delay.f k x406000 x406001 x406002 x406003 x406004 x406005 x406006 x406007 x406008 x406009 x406010 x406011 x406012 x406013 x8 0 x2).bind fun t424 => (if t424 = x402002 then ((l33_known.f k).bind fun t425 => (some t425)) else (none))) else (none))) else (none)))
end
def l33_ScriptCuts.f (k : Nat) (a0_0 a0_1 a0_2 a0_3 a0_4 a0_5 a0_6 a0_7 a0_8 a0_9 : Int) (l0_10 l0_11 : List Int) (l0_12 : List ByteArray) (l0_13 : List (S44)) (a1 a2 : Int) : Option (Bool) := (r33_Few.f k a0_0 a0_1 a0_2 a0_3 a0_4 a0_5 a0_6 a0_7 a0_8 a0_9 l0_10 l0_11 l0_12 l0_13 400).bind fun t402 => (if t402 = true then ((script_Right.f k a0_0 a0_1 a0_2 a0_3 a0_4 a0_5 a0_6 a0_7 a0_8 a0_9 l0_10 l0_11 l0_12 l0_13).bind fun t403 => (l33_ScriptCuts.j0 k a1 a2 (t403 != 0) a0_0 a0_1 a0_2 a0_3 a0_4 a0_5 a0_6 a0_7 a0_8 a0_9 l0_10 l0_11 l0_12 l0_13)) else (l33_ScriptCuts.j0 k a1 a2 true a0_0 a0_1 a0_2 a0_3 a0_4 a0_5 a0_6 a0_7 a0_8 a0_9 l0_10 l0_11 l0_12 l0_13))
def l33_ScriptCuts.T17 : Bool × List (List Nat × List Nat) := (true, [([], []), ([], []), ([], []), ([0, 1, 2], [0, 1, 2]), ([], []), ([4], [4]), ([5], [5]), ([3, 6], [3, 6]), ([7, 3], [7]), ([8], [8]), ([8], [8]), ([8], [8]), ([9, 10, 11, 8, 8], [8, 9, 10, 11]), ([8], [8]), ([13, 8], [8, 13]), ([14, 8], [8, 14]), ([12, 15, 8], [8, 12, 15]), ([8, 16], [8, 16]), ([17, 12], [17]), ([18], [18]), ([18], [18]), ([18], [18]), ([19, 20, 21, 18, 18], [18, 19, 20, 21]), ([18], [18]), ([23, 18], [18, 23]), ([24, 18], [18, 24]), ([22, 25, 18], [18, 22, 25]), ([18, 26], [18, 26]), ([27, 22], [27]), ([28, 28], [28]), ([28, 29], [28, 29]), ([30, 29, 0, 1, 2, 3, 4, 5, 6, 7, 8, 9, 10, 11, 12, 13, 14, 15, 16, 17, 18, 19, 20, 21, 22, 23, 24, 25, 26, 27, 28, 29, 30], [30])])
def l33_ScriptCuts.B17 : List Nat := [0, 0, 0, 7, 0, 16, 48, 127, 255, 511, 511, 511, 4095, 511, 8703, 25087, 65535, 131071, 262143, 524287, 524287, 524287, 4194303, 524287, 8912895, 25690111, 67108863, 134217727, 268435455, 536870911, 1073741823, 2147483647]
theorem l33_ScriptCuts.tab17 : rtab .any (opsOf Try.f5 17) = l33_ScriptCuts.T17 := by kernel_rfl
theorem l33_ScriptCuts.bits17 : waitsOk l33_ScriptCuts.T17.2 l33_ScriptCuts.B17 = true := by kernel_rfl
set_option maxHeartbeats 8000000 in
set_option maxRecDepth 100000 in
theorem l33_ScriptCuts.callsV (k : Nat) (a0_0 a0_1 a0_2 a0_3 a0_4 a0_5 a0_6 a0_7 a0_8 a0_9 : Int) (A0_10 : Option Addr) (c0_10 : Nat) (l0_10 : List Int) (A0_11 : Option Addr) (c0_11 : Nat) (l0_11 : List Int) (A0_12 : Option Addr) (c0_12 : Nat) (l0_12 : List ByteArray) (P0_13_ : Nat → Prop) (A0_13 : Option Addr) (c0_13 : Nat) (l0_13 : List (S44)) (a1 a2 : Int) (r : Bool) (w : World) (hr0_10 : Kd.C (Kd.int .i64) w A0_10 l0_10.length l0_10) (hc0_10 : l0_10.length ≤ c0_10) (hr0_11 : Kd.C (Kd.int .i64) w A0_11 l0_11.length l0_11) (hc0_11 : l0_11.length ≤ c0_11) (hr0_12 : Kd.C Kd.string w A0_12 l0_12.length l0_12) (hc0_12 : l0_12.length ≤ c0_12) (hs0_13 : Kd.V k44 44 w w.heap.size (fun k_ => P0_13_ k_) (.slice A0_13 l0_13.length c0_13) l0_13) (h : l33_ScriptCuts.f k a0_0 a0_1 a0_2 a0_3 a0_4 a0_5 a0_6 a0_7 a0_8 a0_9 l0_10 l0_11 l0_12 l0_13 a1 a2 = some r) :
  Calls Try.prog 5 #[.agg #[.int .i64 a0_0, .int .i64 a0_1, .int .i64 a0_2, .int .i64 a0_3, .int .i64 a0_4, .int .i64 a0_5, .int .i64 a0_6, .int .i64 a0_7, .int .i64 a0_8, .int .i64 a0_9, .slice A0_10 l0_10.length c0_10, .slice A0_11 l0_11.length c0_11, .slice A0_12 l0_12.length c0_12, .slice A0_13 l0_13.length c0_13], .int .i64 a1, .int .i64 a2] w fun e w' => e = .returned (.bool r) ∧ Below w.heap.size w w' := by
 have hu44 := Try.underlying44
 have HR0_10 := am_ hr0_10
 have HC0_10 := am_ hc0_10
 clear hr0_10 hc0_10
 have HR0_11 := am_ hr0_11
 have HC0_11 := am_ hc0_11
 clear hr0_11 hc0_11
 have HR0_12 := am_ hr0_12
 have HC0_12 := am_ hc0_12
 clear hr0_12 hc0_12
 have HO0_13 := am_ (show Kd.V k44 44 w w.heap.size (fun k_ => (P0_13_ k_ ∨ w.heap.size ≤ k_)) (.slice A0_13 l0_13.length c0_13) l0_13 from Kd.V_mono hs0_13 (fun k_ hk => .inl hk))
 have HB := am_ (Below.refl w.heap.size w)
 have H := h
 unfold l33_ScriptCuts.f at H
 clear h
 have HC4 := am_ H
 clear H
 go_enter Try.func5, Try.ntmps5
 go_upto_region 1 with (first | ((with_reducible refine gate_load (t := 28) (x := .tmp 3) rfl ?_); refine lrg_ 28 (.tmp 3) gb401 28 (by (with_reducible repeat (first | apply kn_ | apply kd_ | apply ka_)); with_reducible exact BK401.out) Try.underlying28 ?_) | ((with_reducible refine gate_load (t := 28) (x := .tmp 7) rfl ?_); refine lrg_ 28 (.tmp 7) gb405 28 (by (with_reducible repeat (first | apply kn_ | apply kd_ | apply ka_)); with_reducible exact BK405.out) Try.underlying28 ?_) | ((with_reducible refine gate_dst (N := 3) rfl ?_); (try (refine gate_guard (by rfl) ?_; dsimp only)); refine bxe_ 3 28 #[.int .i64 a0_0, .int .i64 a0_1, .int .i64 a0_2, .int .i64 a0_3, .int .i64 a0_4, .int .i64 a0_5, .int .i64 a0_6, .int .i64 a0_7, .int .i64 a0_8, .int .i64 a0_9, .slice A0_10 l0_10.length c0_10, .slice A0_11 l0_11.length c0_11, .slice A0_12 l0_12.length c0_12, .slice A0_13 l0_13.length c0_13] ?_; intro gb401 hg w5 hbox hb; replace HO0_13 := am_ (Kd.V_below (Kd.V_elderB (by (with_reducible repeat (first | apply Kd.V_alloc | apply Kd.V_drewN | apply Kd.V_drew)); exact HO0_13.out) gb401 (Nat.le_of_eq hg.symm)) hb); have BK401 := am_ (hbox); have GW401 := gwk_ HB hg; have GE401 := GW401; replace HB := bst_ HB hb; clear hb hbox hg))
 (try simp only [Act.put, zs_])
 go_cut [17] (fun v17 wc => ∃ (kq : Nat) (x17_3 : Bool), v17 = .bool x17_3 ∧ Aside0 (l33_ScriptCuts.j0 kq a1 a2 x17_3 a0_0 a0_1 a0_2 a0_3 a0_4 a0_5 a0_6 a0_7 a0_8 a0_9 l0_10 l0_11 l0_12 l0_13 = some r) ∧ Aside0 (kq ≤ k) ∧ Aside0 (Kd.V k44 44 wc w.heap.size (fun k_ => (P0_13_ k_ ∨ w.heap.size ≤ k_) ∧ k_ ≠ gb401) (.slice A0_13 l0_13.length c0_13) l0_13) ∧ Aside0 (wc.heap[gb401]? = some (.cells #[.int .i64 a0_0, .int .i64 a0_1, .int .i64 a0_2, .int .i64 a0_3, .int .i64 a0_4, .int .i64 a0_5, .int .i64 a0_6, .int .i64 a0_7, .int .i64 a0_8, .int .i64 a0_9, (.slice A0_10 l0_10.length c0_10), (.slice A0_11 l0_11.length c0_11), (.slice A0_12 l0_12.length c0_12), (.slice A0_13 l0_13.length c0_13)] 28 (0, 0))) ∧ Aside0 (Below w.heap.size w wc))
 case first =>
  have H := HC4.out
  clear HC4
  obtain ⟨t402, A6, H⟩ := bes_ H
  try dsimp only at H
  by_cases c7 : t402 = true
  ·subst c7
   rw [if_pos rfl] at H
   obtain ⟨t403, A8, H⟩ := bes_ H
   try dsimp only at H
   have H' := am_ H
   clear H
   have hcz9 := cells_14 BK401.out
   have hfz9 := frozen_14 BK401.out
   go_wp2_with (first | ((with_reducible refine gate_load (t := 28) (x := .tmp 3) rfl ?_); refine lrg_ 28 (.tmp 3) gb401 28 (by (with_reducible repeat (first | apply kn_ | apply kd_ | apply ka_)); with_reducible exact BK401.out) Try.underlying28 ?_) | ((with_reducible refine gate_load (t := 28) (x := .tmp 7) rfl ?_); refine lrg_ 28 (.tmp 7) gb405 28 (by (with_reducible repeat (first | apply kn_ | apply kd_ | apply ka_)); with_reducible exact BK405.out) Try.underlying28 ?_) | ((with_reducible refine gate_callee (f := 10) rfl ?_); refine gom_ (some 11) Try.func10 (r33_Few.calls k a0_0 a0_1 a0_2 a0_3 a0_4 a0_5 a0_6 a0_7 a0_8 a0_9 _ _ l0_10 _ _ l0_11 _ _ l0_12 _ _ l0_13 400 _ _ (Kd.C_below HR0_10.out HB.out) HC0_10.out (Kd.C_below HR0_11.out HB.out) HC0_11.out (Kd.C_below HR0_12.out HB.out) HC0_12.out (Kd.V_reads' HO0_13.out).2.2 (Kd.V_reads' HO0_13.out).2.1 A6.out) ?_; rintro e w10 ⟨rfl, hb⟩; refine ⟨_, rfl, ?_⟩; replace HO0_13 := am_ (Kd.V_below HO0_13.out hb); replace BK401 := bkb_ BK401 hb; replace HB := bst_ HB hb; (try clear hb); have hall1_ := cells_14 BK401.out; have hall2_ := frozen_14 BK401.out) | (go_at_call 12; (with_reducible refine (script_Right.calls k a0_0 a0_1 a0_2 a0_3 a0_4 a0_5 a0_6 a0_7 a0_8 a0_9 _ _ l0_10 _ _ l0_11 _ _ l0_12 _ _ l0_13 _ _ (Kd.C_below HR0_10.out HB.out) HC0_10.out (Kd.C_below HR0_11.out HB.out) HC0_11.out (Kd.C_below HR0_12.out HB.out) HC0_12.out (Kd.V_reads' HO0_13.out).2.2 (Kd.V_reads' HO0_13.out).2.1 A8.out).mono ?_); rintro e w12 ⟨rfl, hb⟩; replace HO0_13 := am_ (Kd.V_below HO0_13.out hb); replace BK401 := bkb_ BK401 hb; replace HB := bst_ HB hb; (try clear hb)))
   go_meet
   case rel => exact ⟨_, ((t403 != 0)), (by first | rfl | (simp; done) | (simp [*]; done)), H', ⟨by first | omega | exact Nat.le_refl _⟩, ⟨by (with_reducible repeat (first | apply Kd.V_alloc | apply Kd.V_drewN | apply Kd.V_drew)); exact HO0_13.out⟩, ⟨by (with_reducible repeat (first | apply kn_ | apply kd_ | apply ka_)); exact BK401.out⟩, ⟨by repeat (first | (with_reducible first | exact HB.out | apply ba_ | apply bn_ | apply bd_ | refine bs_ ?_ GE401.out) | exact HB.out)⟩⟩
  ·replace c7 := Bool.eq_false_iff.mpr c7
   subst c7
   rw [if_neg (show ¬ (false = true) by decide)] at H
   have H' := am_ H
   clear H
   have hcz13 := cells_14 BK401.out
   have hfz13 := frozen_14 BK401.out
   go_wp2_with (first | ((with_reducible refine gate_load (t := 28) (x := .tmp 3) rfl ?_); refine lrg_ 28 (.tmp 3) gb401 28 (by (with_reducible repeat (first | apply kn_ | apply kd_ | apply ka_)); with_reducible exact BK401.out) Try.underlying28 ?_) | ((with_reducible refine gate_load (t := 28) (x := .tmp 7) rfl ?_); refine lrg_ 28 (.tmp 7) gb405 28 (by (with_reducible repeat (first | apply kn_ | apply kd_ | apply ka_)); with_reducible exact BK405.out) Try.underlying28 ?_) | ((with_reducible refine gate_callee (f := 10) rfl ?_); refine gom_ (some 11) Try.func10 (r33_Few.calls k a0_0 a0_1 a0_2 a0_3 a0_4 a0_5 a0_6 a0_7 a0_8 a0_9 _ _ l0_10 _ _ l0_11 _ _ l0_12 _ _ l0_13 400 _ _ (Kd.C_below HR0_10.out HB.out) HC0_10.out (Kd.C_below HR0_11.out HB.out) HC0_11.out (Kd.C_below HR0_12.out HB.out) HC0_12.out (Kd.V_reads' HO0_13.out).2.2 (Kd.V_reads' HO0_13.out).2.1 A6.out) ?_; rintro e w14 ⟨rfl, hb⟩; refine ⟨_, rfl, ?_⟩; replace HO0_13 := am_ (Kd.V_below HO0_13.out hb); replace BK401 := bkb_ BK401 hb; replace HB := bst_ HB hb; (try clear hb)))
   go_meet
   case rel => exact ⟨_, (true), (by first | rfl | (simp; done) | (simp [*]; done)), H', ⟨by first | omega | exact Nat.le_refl _⟩, ⟨by (with_reducible repeat (first | apply Kd.V_alloc | apply Kd.V_drewN | apply Kd.V_drew)); exact HO0_13.out⟩, ⟨by (with_reducible repeat (first | apply kn_ | apply kd_ | apply ka_)); exact BK401.out⟩, ⟨by repeat (first | (with_reducible first | exact HB.out | apply ba_ | apply bn_ | apply bd_ | refine bs_ ?_ GE401.out) | exact HB.out)⟩⟩
 case rest =>
  clear HC4
  try clear c1
  try clear p2
  try clear c5
  try clear c7
  try clear c10
  try clear hcz11_0 hcz11_1 hcz11_2 hcz11_3 hcz11_4 hcz11_5 hcz11_6 hcz11_7 hcz11_8 hcz11_9 hcz11_10 hcz11_11 hcz11_12 hcz11_13
  try clear hcz13
  try clear hcz9
  try clear hfz11_0 hfz11_1 hfz11_2 hfz11_3 hfz11_4 hfz11_5 hfz11_6 hfz11_7 hfz11_8 hfz11_9 hfz11_10 hfz11_11 hfz11_12 hfz11_13
  try clear hfz13
  try clear hfz9
  obtain ⟨kq, x17_3, rfl, HA, HJ3, HO_402013, BK401, HB⟩ := hcut
  cases kq with
  | zero => exact absurd HA.out (by simp [l33_ScriptCuts.j0])
  | succ kj3 =>
   have H := HA.out
   clear HA
   simp only [l33_ScriptCuts.j0] at H
   by_cases c15 : x17_3 = true
   ·subst c15
    rw [if_pos rfl] at H
    replace H := Option.bind_eq_some_iff.mp H
    obtain ⟨t404, A160, H⟩ := H
    replace H : (some t404) = some r := H
    have A16 := am_ A160
    clear A160
    obtain rfl := Option.some.inj H
    go_wp2_with (first | ((with_reducible refine gate_load (t := 28) (x := .tmp 3) rfl ?_); refine lrg_ 28 (.tmp 3) gb401 28 (by (with_reducible repeat (first | apply kn_ | apply kd_ | apply ka_)); with_reducible exact BK401.out) Try.underlying28 ?_) | ((with_reducible refine gate_load (t := 28) (x := .tmp 7) rfl ?_); refine lrg_ 28 (.tmp 7) gb405 28 (by (with_reducible repeat (first | apply kn_ | apply kd_ | apply ka_)); with_reducible exact BK405.out) Try.underlying28 ?_) | ((with_reducible refine gate_callee (f := 11) rfl ?_); refine gom_ (some 18) Try.func11 (l33_known.calls kj3  _ _ A16.out) ?_; rintro e w17 ⟨rfl, hb⟩; refine ⟨_, rfl, ?_⟩; replace HO_402013 := am_ (Kd.V_below HO_402013.out hb); replace BK401 := bkb_ BK401 hb; replace HB := bst_ HB hb; (try clear hb)))
    go_ret
    exact ⟨by first | rfl | (simp [*] <;> rfl), by repeat (first | (with_reducible first | exact HB.out | apply ba_ | apply bn_ | apply bd_ | refine bs_ ?_ GE401.out) | exact HB.out)⟩
   ·replace c15 := Bool.eq_false_iff.mpr c15
    subst c15
    rw [if_neg (show ¬ (false = true) by decide)] at H
    have HC18 := am_ H
    clear H
    have hcz19 := cells_14 BK401.out
    have hfz19 := frozen_14 BK401.out
    go_upto_region 4 with (first | ((with_reducible refine gate_load (t := 28) (x := .tmp 3) rfl ?_); refine lrg_ 28 (.tmp 3) gb401 28 (by (with_reducible repeat (first | apply kn_ | apply kd_ | apply ka_)); with_reducible exact BK401.out) Try.underlying28 ?_) | ((with_reducible refine gate_load (t := 28) (x := .tmp 7) rfl ?_); refine lrg_ 28 (.tmp 7) gb405 28 (by (with_reducible repeat (first | apply kn_ | apply kd_ | apply ka_)); with_reducible exact BK405.out) Try.underlying28 ?_) | ((with_reducible refine gate_dst (N := 7) rfl ?_); (try (refine gate_guard (by rfl) ?_; dsimp only)); refine bxe_ 7 28 #[.int .i64 0, .int .i64 0, .int .i64 0, .int .i64 0, .int .i64 0, .int .i64 0, .int .i64 0, .int .i64 0, .int .i64 0, .int .i64 0, .slice none 0 0, .slice none 0 0, .slice none 0 0, .slice none 0 0] ?_; intro gb405 hg w20 hbox hb; replace HO_402013 := am_ (Kd.V_below (Kd.V_elderB (by (with_reducible repeat (first | apply Kd.V_alloc | apply Kd.V_drewN | apply Kd.V_drew)); exact HO_402013.out) gb405 (Nat.le_of_eq hg.symm)) hb); have BK405 := am_ (hbox); have GW405 := gwk_ HB hg; have GE405 := GW405; replace HB := bst_ HB hb; have NB401_405 := nbk_ BK401 hg; have NB405_401 := nbs_ NB401_405; replace BK401 := bkb_ BK401 hb; clear hb hbox hg) | ((with_reducible refine gate_store (t := 28) (p := 7) rfl ?_); refine row_store_event (t := 28) (p := 7) (v := ?vo_w21) ?hgd ?ho ?hn gb405 #[.int .i64 a0_0, .int .i64 a0_1, .int .i64 a0_2, .int .i64 a0_3, .int .i64 a0_4, .int .i64 a0_5, .int .i64 a0_6, .int .i64 a0_7, .int .i64 a0_8, .int .i64 a0_9, .slice A0_10 l0_10.length c0_10, .slice A0_11 l0_11.length c0_11, .slice A0_12 l0_12.length c0_12, .slice A0_13 l0_13.length c0_13] ?hx ?hy 28 #[.int .i64 0, .int .i64 0, .int .i64 0, .int .i64 0, .int .i64 0, .int .i64 0, .int .i64 0, .int .i64 0, .int .i64 0, .int .i64 0, .slice none 0 0, .slice none 0 0, .slice none 0 0, .slice none 0 0] ?hg ?hi ?hold ?h1 ?_; (case hgd => rfl); (case ho => rfl); (case hn => rfl); (case hx => rfl); (case hy => rfl); (case hg => exact (by (with_reducible repeat (first | apply kn_ | apply kd_ | apply ka_)); exact BK405.out)); (case hi => kernel_rfl); (case hold => rfl); (case h1 => (first | kernel_rfl | simp [Value.oneCell'])); intro w21 hw; have n0_ : Aside0 (Kd.V k44 44 w21 w.heap.size (fun k_ => (P0_13_ k_ ∨ w.heap.size ≤ k_) ∧ k_ ≠ gb401 ∧ k_ ≠ gb405) (.slice A0_13 l0_13.length c0_13) l0_13) := ⟨(by rw [hw]; exact (by (with_reducible repeat (first | apply Kd.V_alloc | apply Kd.V_drewN | apply Kd.V_drew)); exact Kd.V_mono (Kd.V_farc (Kd.V_mono HO_402013.out (fun k_ hk => (⟨hk, hk.2⟩ : _ ∧ k_ ≠ gb405))) (fun _ hk => hk.2)) (fun _ hk => ⟨hk.1.1.1, ⟨hk.1.1.2, hk.1.2⟩⟩)))⟩; have n1_ : Aside0 (w21.heap[gb401]? = some (.cells #[.int .i64 a0_0, .int .i64 a0_1, .int .i64 a0_2, .int .i64 a0_3, .int .i64 a0_4, .int .i64 a0_5, .int .i64 a0_6, .int .i64 a0_7, .int .i64 a0_8, .int .i64 a0_9, .slice A0_10 l0_10.length c0_10, .slice A0_11 l0_11.length c0_11, .slice A0_12 l0_12.length c0_12, .slice A0_13 l0_13.length c0_13] 28 (0, 0))) := ⟨(by rw [hw]; exact (by (with_reducible repeat (first | apply kn_ | apply kd_ | apply ka_)); refine blk_farc ?_ NB401_405.out; (with_reducible repeat (first | apply kn_ | apply kd_ | apply ka_)); exact BK401.out))⟩; have n2_ : Aside0 (w21.heap[gb405]? = some (.cells #[.int .i64 a0_0, .int .i64 a0_1, .int .i64 a0_2, .int .i64 a0_3, .int .i64 a0_4, .int .i64 a0_5, .int .i64 a0_6, .int .i64 a0_7, .int .i64 a0_8, .int .i64 a0_9, .slice A0_10 l0_10.length c0_10, .slice A0_11 l0_11.length c0_11, .slice A0_12 l0_12.length c0_12, .slice A0_13 l0_13.length c0_13] 28 (0, 0))) := ⟨(by rw [hw]; exact (by (with_reducible repeat (first | apply kn_ | apply kd_ | apply ka_)); refine setRow_heap _ _ #[.int .i64 0, .int .i64 0, .int .i64 0, .int .i64 0, .int .i64 0, .int .i64 0, .int .i64 0, .int .i64 0, .int .i64 0, .int .i64 0, .slice none 0 0, .slice none 0 0, .slice none 0 0, .slice none 0 0] _ 28 (0, 0) ?_; (with_reducible repeat (first | apply kn_ | apply kd_ | apply ka_)); exact BK405.out))⟩; have n3_ : Aside0 (Below w.heap.size w w21) := ⟨(by rw [hw]; exact (by repeat (first | (with_reducible first | exact HB.out | refine below_setc ?_ GE405.out | apply below_alloc | apply pw_below_drewN | apply below_drew1 | refine bs_ ?_ GE401.out | refine bs_ ?_ GE405.out) | exact HB.out)))⟩; clear hw; clear HO_402013; clear BK401; clear BK405; clear HB; have HO_402013 := n0_; have BK401 := n1_; have BK405 := n2_; have HB := n3_; clear n0_ n1_ n2_ n3_))
    (try simp only [Act.put, zs_])
    go_cut [28] (fun v28 wc => ∃ (kq : Nat) (x28_17 : Bool), v28 = .bool x28_17 ∧ Aside0 (l33_ScriptCuts.j1 kq a1 a2 x28_17 a0_0 a0_1 a0_2 a0_3 a0_4 a0_5 a0_6 a0_7 a0_8 a0_9 l0_10 l0_11 l0_12 l0_13 a0_0 a0_1 a0_2 a0_3 a0_4 a0_5 a0_6 a0_7 a0_8 a0_9 l0_10 l0_11 l0_12 l0_13 = some r) ∧ Aside0 (kq ≤ kj3) ∧ Aside0 (Kd.V k44 44 wc w.heap.size (fun k_ => (P0_13_ k_ ∨ w.heap.size ≤ k_) ∧ k_ ≠ gb401 ∧ k_ ≠ gb405) (.slice A0_13 l0_13.length c0_13) l0_13) ∧ Aside0 (Kd.V k44 44 wc w.heap.size (fun k_ => (P0_13_ k_ ∨ w.heap.size ≤ k_) ∧ k_ ≠ gb401 ∧ k_ ≠ gb405) (.slice A0_13 l0_13.length c0_13) l0_13) ∧ Aside0 (wc.heap[gb401]? = some (.cells #[.int .i64 a0_0, .int .i64 a0_1, .int .i64 a0_2, .int .i64 a0_3, .int .i64 a0_4, .int .i64 a0_5, .int .i64 a0_6, .int .i64 a0_7, .int .i64 a0_8, .int .i64 a0_9, (.slice A0_10 l0_10.length c0_10), (.slice A0_11 l0_11.length c0_11), (.slice A0_12 l0_12.length c0_12), (.slice A0_13 l0_13.length c0_13)] 28 (0, 0))) ∧ Aside0 (wc.heap[gb405]? = some (.cells #[.int .i64 a0_0, .int .i64 a0_1, .int .i64 a0_2, .int .i64 a0_3, .int .i64 a0_4, .int .i64 a0_5, .int .i64 a0_6, .int .i64 a0_7, .int .i64 a0_8, .int .i64 a0_9, (.slice A0_10 l0_10.length c0_10), (.slice A0_11 l0_11.length c0_11), (.slice A0_12 l0_12.length c0_12), (.slice A0_13 l0_13.length c0_13)] 28 (0, 0))) ∧ Aside0 (Below w.heap.size w wc))
    case first =>
     have H := HC18.out
     clear HC18
     by_cases c22 : a1 ≥ 0
     ·rw [if_pos c22] at H
      have c22b0 : decide (0 ≤ a1) = true := decide_eq_true c22
      clear c22
      (first | rw [c22b0] | (simp only [i64_w, i32_w]; rw [c22b0]) | skip)
      have H' := am_ H
      clear H
      have hnb23 := NB401_405.out
      have hnc23 := NB405_401.out
      have hcz24 := cells_14 BK401.out
      have hfz24 := frozen_14 BK401.out
      go_wp2
      go_meet
      case rel => exact ⟨_, (decide (a1 < (l0_13.length : Int))), (by first | rfl | (simp; done) | (simp [*]; done)), H', ⟨by have := HJ3.out; first | omega | exact Nat.le_refl _⟩, ⟨by (with_reducible repeat (first | apply Kd.V_alloc | apply Kd.V_drewN | apply Kd.V_drew)); exact HO_402013.out⟩, ⟨by (with_reducible repeat (first | apply Kd.V_alloc | apply Kd.V_drewN | apply Kd.V_drew)); exact HO_402013.out⟩, ⟨by (with_reducible repeat (first | apply kn_ | apply kd_ | apply ka_)); exact BK401.out⟩, ⟨by (with_reducible repeat (first | apply kn_ | apply kd_ | apply ka_)); exact BK405.out⟩, ⟨by repeat (first | (with_reducible first | exact HB.out | apply ba_ | apply bn_ | apply bd_ | refine bs_ ?_ GE401.out | refine bs_ ?_ GE405.out) | exact HB.out)⟩⟩
     ·rw [if_neg c22] at H
      have c22b0 : decide (0 ≤ a1) = false := decide_eq_false c22
      clear c22
      (first | rw [c22b0] | (simp only [i64_w, i32_w]; rw [c22b0]) | skip)
      have H' := am_ H
      clear H
      go_wp2
      go_meet
      case rel => exact ⟨_, (false), (by first | rfl | (simp; done) | (simp [*]; done)), H', ⟨by have := HJ3.out; first | omega | exact Nat.le_refl _⟩, ⟨by (with_reducible repeat (first | apply Kd.V_alloc | apply Kd.V_drewN | apply Kd.V_drew)); exact HO_402013.out⟩, ⟨by (with_reducible repeat (first | apply Kd.V_alloc | apply Kd.V_drewN | apply Kd.V_drew)); exact HO_402013.out⟩, ⟨by (with_reducible repeat (first | apply kn_ | apply kd_ | apply ka_)); exact BK401.out⟩, ⟨by (with_reducible repeat (first | apply kn_ | apply kd_ | apply ka_)); exact BK405.out⟩, ⟨by repeat (first | (with_reducible first | exact HB.out | apply ba_ | apply bn_ | apply bd_ | refine bs_ ?_ GE401.out | refine bs_ ?_ GE405.out) | exact HB.out)⟩⟩
    case rest =>
     clear HC18
     try clear c1
     try clear c2
     try clear p2
     try clear c5
     try clear c7
     try clear c10
     try clear c11
     try clear c15
     try clear c22
     try clear c22b0
     try clear c23
     try clear hcz11_0 hcz11_1 hcz11_2 hcz11_3 hcz11_4 hcz11_5 hcz11_6 hcz11_7 hcz11_8 hcz11_9 hcz11_10 hcz11_11 hcz11_12 hcz11_13
     try clear hcz13
     try clear hcz19
     try clear hcz24
     try clear hcz9
     try clear hfz11_0 hfz11_1 hfz11_2 hfz11_3 hfz11_4 hfz11_5 hfz11_6 hfz11_7 hfz11_8 hfz11_9 hfz11_10 hfz11_11 hfz11_12 hfz11_13
     try clear hfz13
     try clear hfz19
     try clear hfz24
     try clear hfz9
     try clear p2
     obtain ⟨kq, x28_17, rfl, HA, HJ17, HO_402013, HO_406013, BK401, BK405, HB⟩ := hcut
     cases kq with
     | zero => exact absurd HA.out (by simp [l33_ScriptCuts.j1])
     | succ kj17 =>
      have H := HA.out
      clear HA
      simp only [l33_ScriptCuts.j1] at H
      have HC25 := am_ H
      clear H
      go_upto_if 28 with (fail)
      go_cut [] (fun wc => ∃ (kq : Nat) (x406013_24 : List (S44)) (u406013 : Value), Aside0 (l33_ScriptCuts.j2 kq a2 a0_0 a0_1 a0_2 a0_3 a0_4 a0_5 a0_6 a0_7 a0_8 a0_9 l0_10 l0_11 l0_12 l0_13 a0_0 a0_1 a0_2 a0_3 a0_4 a0_5 a0_6 a0_7 a0_8 a0_9 l0_10 l0_11 l0_12 x406013_24 = some r) ∧ Aside0 (kq ≤ kj17) ∧ Aside0 (Kd.V k44 44 wc w.heap.size (fun k_ => (P0_13_ k_ ∨ w.heap.size ≤ k_) ∧ k_ ≠ gb401 ∧ k_ ≠ gb405) (.slice A0_13 l0_13.length c0_13) l0_13) ∧ Aside0 (Kd.V k44 44 wc w.heap.size (fun k_ => (P0_13_ k_ ∨ w.heap.size ≤ k_) ∧ k_ ≠ gb401 ∧ k_ ≠ gb405) u406013 x406013_24) ∧ Aside0 (wc.heap[gb401]? = some (.cells #[.int .i64 a0_0, .int .i64 a0_1, .int .i64 a0_2, .int .i64 a0_3, .int .i64 a0_4, .int .i64 a0_5, .int .i64 a0_6, .int .i64 a0_7, .int .i64 a0_8, .int .i64 a0_9, (.slice A0_10 l0_10.length c0_10), (.slice A0_11 l0_11.length c0_11), (.slice A0_12 l0_12.length c0_12), (.slice A0_13 l0_13.length c0_13)] 28 (0, 0))) ∧ Aside0 (wc.heap[gb405]? = some (.cells #[.int .i64 a0_0, .int .i64 a0_1, .int .i64 a0_2, .int .i64 a0_3, .int .i64 a0_4, .int .i64 a0_5, .int .i64 a0_6, .int .i64 a0_7, .int .i64 a0_8, .int .i64 a0_9, (.slice A0_10 l0_10.length c0_10), (.slice A0_11 l0_11.length c0_11), (.slice A0_12 l0_12.length c0_12), u406013] 28 (0, 0))) ∧ Aside0 (Below w.heap.size w wc))
      case first =>
       have H := HC25.out
       clear HC25
       by_cases c26 : x28_17 = true
       ·subst c26
        rw [if_pos rfl] at H
        by_cases c27 : 0 ≤ a1
        ·rw [if_pos c27] at H
         have c27b0 := eq_true c27
         have c27b1 : decide (0 ≤ a1) = true := decide_eq_true c27
         clear c27
         by_cases c28 : a1 ≤ (l0_13.length : Int)
         ·rw [if_pos c28] at H
          have c28b0 := eq_true c28
          have c28b1 : decide (a1 ≤ (l0_13.length : Int)) = true := decide_eq_true c28
          clear c28
          obtain ⟨y406, hy406⟩ : ∃ y_ : List (S44), y_ = (l0_13.take (a1 : Int).toNat) := ⟨_, rfl⟩
          replace H : (l33_ScriptCuts.j2 kj17 a2 a0_0 a0_1 a0_2 a0_3 a0_4 a0_5 a0_6 a0_7 a0_8 a0_9 l0_10 l0_11 l0_12 l0_13 a0_0 a0_1 a0_2 a0_3 a0_4 a0_5 a0_6 a0_7 a0_8 a0_9 l0_10 l0_11 l0_12 y406) = some r := by first | (rw [hy406]; with_reducible exact H) | (have H2_ := (Option.bind_some _ _).symm.trans H; rw [hy406]; with_reducible exact H2_) | (have H2_ := (Option.bind_some _ _).symm.trans H; with_reducible exact H2_) | with_reducible exact H | (rw [hy406]; exact H) | exact H
          have Ny406 := am_ hy406
          clear hy406
          have H' := am_ H
          clear H
          have hnb29 := NB401_405.out
          have hnc29 := NB405_401.out
          have hcz30 := cells_14 BK401.out
          have hfz30 := frozen_14 BK401.out
          have q31 : (a1 : Int) ≤ ((l0_13.length : Int) : Int) := of_decide_eq_true (by first | (with_reducible assumption) | assumption)
          obtain ⟨i031, hi031, _, hsz31, _⟩ := info_parts info44
          have hroom31 : l0_13.length ≤ c0_13 := (Kd.V_reads' HO_402013.out).2.1
          have hC31 : Kd.F k44 _ _ A0_13 l0_13.length l0_13 := (Kd.V_at (base := w.heap.size) HO_402013.out).2.2
          have hcut31 := cut_to (P := Try.prog) 26 44 .i64 Try.underlying26 hi031 A0_13 l0_13.length c0_13 a1 (of_decide_eq_true (by first | (with_reducible assumption) | assumption)) q31 hroom31
          have hr31 := Kd.F_take (m := (a1 : Int).toNat) hC31 (by omega)
          have hy31 : y406.length = (a1 : Int).toNat := (by rw [Ny406.out, List.length_take]; omega)
          rw [← Ny406.out] at hr31
          rw [← hy31] at hcut31
          have HO410 := am_ (show Kd.V k44 44 _ w.heap.size _ (.slice A0_13 y406.length c0_13) y406 from Kd.V_mk (by omega) hr31)
          have HC410 := am_ (show y406.length ≤ c0_13 from by omega)
          clear hr31 hC31 hroom31 hi031 hsz31
          have KY31 := am_ hy31
          clear hy31
          replace q31 := eq_true q31
          have hcz32 := cells_14 BK405.out
          have hfz32 := frozen_14 BK405.out
          go_wp2
          go_meet
          case rel => exact ⟨_, (y406), (.slice A0_13 y406.length c0_13), H', ⟨by have := HJ3.out; have := HJ17.out; first | omega | exact Nat.le_refl _⟩, ⟨by (with_reducible repeat (first | apply Kd.V_alloc | apply Kd.V_drewN | apply Kd.V_drew)); exact Kd.V_mono (Kd.V_far (p := ⟨gb405, 13, none⟩) (Kd.V_mono HO_402013.out (fun k_ hk => (⟨hk, hk.2.2⟩ : _ ∧ k_ ≠ gb405))) (fun _ hk => hk.2) (.slice A0_13 y406.length c0_13)) (fun _ hk => ⟨hk.1.1, ⟨hk.1.2.1, hk.1.2.2⟩⟩)⟩, ⟨by (with_reducible repeat (first | apply Kd.V_alloc | apply Kd.V_drewN | apply Kd.V_drew)); exact Kd.V_mono (Kd.V_far (p := ⟨gb405, 13, none⟩) (Kd.V_mono HO410.out (fun k_ hk => (⟨hk, hk.2.2⟩ : _ ∧ k_ ≠ gb405))) (fun _ hk => hk.2) (.slice A0_13 y406.length c0_13)) (fun _ hk => ⟨hk.1.1, ⟨hk.1.2.1, hk.1.2.2⟩⟩)⟩, ⟨by (with_reducible repeat (first | apply kn_ | apply kd_ | apply ka_)); refine blk_far ?_ NB401_405.out _; (with_reducible repeat (first | apply kn_ | apply kd_ | apply ka_)); exact BK401.out⟩, ⟨by (with_reducible repeat (first | apply kn_ | apply kd_ | apply ka_)); refine blk_put (cs := #[.int .i64 a0_0, .int .i64 a0_1, .int .i64 a0_2, .int .i64 a0_3, .int .i64 a0_4, .int .i64 a0_5, .int .i64 a0_6, .int .i64 a0_7, .int .i64 a0_8, .int .i64 a0_9, .slice A0_10 l0_10.length c0_10, .slice A0_11 l0_11.length c0_11, .slice A0_12 l0_12.length c0_12, .slice A0_13 l0_13.length c0_13]) ?_ 13 _ rfl; (with_reducible repeat (first | apply kn_ | apply kd_ | apply ka_)); exact BK405.out⟩, ⟨by repeat (first | (with_reducible first | exact HB.out | apply ba_ | apply bn_ | apply bd_ | refine bs_ ?_ GE401.out | refine bs_ ?_ GE405.out) | exact HB.out)⟩⟩
         ·rw [if_neg c28] at H
          exact absurd H (by simp)
        ·rw [if_neg c27] at H
         exact absurd H (by simp)
       ·replace c26 := Bool.eq_false_iff.mpr c26
        subst c26
        rw [if_neg (show ¬ (false = true) by decide)] at H
        have H' := am_ H
        clear H
        go_wp2
        go_meet
        case rel => exact ⟨_, (l0_13), (.slice A0_13 l0_13.length c0_13), H', ⟨by have := HJ3.out; have := HJ17.out; first | omega | exact Nat.le_refl _⟩, ⟨by (with_reducible repeat (first | apply Kd.V_alloc | apply Kd.V_drewN | apply Kd.V_drew)); exact HO_402013.out⟩, ⟨by (with_reducible repeat (first | apply Kd.V_alloc | apply Kd.V_drewN | apply Kd.V_drew)); exact HO_406013.out⟩, ⟨by (with_reducible repeat (first | apply kn_ | apply kd_ | apply ka_)); exact BK401.out⟩, ⟨by (with_reducible repeat (first | apply kn_ | apply kd_ | apply ka_)); exact BK405.out⟩, ⟨by repeat (first | (with_reducible first | exact HB.out | apply ba_ | apply bn_ | apply bd_ | refine bs_ ?_ GE401.out | refine bs_ ?_ GE405.out) | exact HB.out)⟩⟩
      case rest =>
       clear HC25
       try clear c1
       try clear c2
       try clear p2
       try clear q3
       try clear c5
       try clear c7
       try clear c10
       try clear c11
       try clear c15
       try clear c22
       try clear c22b0
       try clear c23
       try clear c26
       try clear c27
       try clear c27b0
       try clear c27b1
       try clear c28
       try clear c28b0
       try clear c28b1
       try clear c29
       try clear q31
       try clear hcz11_0 hcz11_1 hcz11_2 hcz11_3 hcz11_4 hcz11_5 hcz11_6 hcz11_7 hcz11_8 hcz11_9 hcz11_10 hcz11_11 hcz11_12 hcz11_13
       try clear hcz13
       try clear hcz19
       try clear hcz24
       try clear hcz30
       try clear hcz32
       try clear hcz9
       try clear hfz11_0 hfz11_1 hfz11_2 hfz11_3 hfz11_4 hfz11_5 hfz11_6 hfz11_7 hfz11_8 hfz11_9 hfz11_10 hfz11_11 hfz11_12 hfz11_13
       try clear hfz13
       try clear hfz19
       try clear hfz24
       try clear hfz30
       try clear hfz32
       try clear hfz9
       try clear p2
       try clear q31
       obtain ⟨kq, x406013_24, u406013, HA, HJ24, HO_402013, HO_406013, BK401, BK405, HB⟩ := hcut
       cases kq with
       | zero => exact absurd HA.out (by simp [l33_ScriptCuts.j2])
       | succ kj24 =>
        have H := HA.out
        clear HA
        simp only [l33_ScriptCuts.j2] at H
        obtain ⟨t411, A33, H⟩ := bes_ H
        try dsimp only at H
        by_cases c34 : t411 = 0
        ·rw [if_pos c34] at H
         have c34b0 : (t411 == 0) = true := beq_iff_eq.mpr c34
         have c34b1 : (t411 != 0) = false := bne_eq_false_iff_eq.mpr c34
         clear c34
         by_cases c35 : ([] : List (S44)).length + x406013_24.length < 977343669134
         ·rw [if_pos c35] at H
          have LMc35 := am_ c35
          clear c35
          obtain ⟨y412, hy412⟩ : ∃ y_ : List (S44), y_ = (([] : List (S44)) ++ x406013_24) := ⟨_, rfl⟩
          replace H : (if y412.length < 977343669134 then ((some (y412 ++ [(⟨([] : List Int), ([] : List Int), ([] : List (S74)), ([] : List (S48)), ([] : List (S74)), ([] : List (S81))⟩ : S44)] : List (S44))).bind fun y415 => ((script_Right.f kj24 a0_0 a0_1 a0_2 a0_3 a0_4 a0_5 a0_6 a0_7 a0_8 a0_9 l0_10 l0_11 l0_12 y415).bind fun t418 => (if t418 = 0 then (if a2 < 0 then (l33_ScriptCuts.j3 kj24 a2 (x406013_24.length : Int) true a0_0 a0_1 a0_2 a0_3 a0_4 a0_5 a0_6 a0_7 a0_8 a0_9 l0_10 l0_11 l0_12 l0_13 a0_0 a0_1 a0_2 a0_3 a0_4 a0_5 a0_6 a0_7 a0_8 a0_9 l0_10 l0_11 l0_12 y415) else (l33_ScriptCuts.j3 kj24 a2 (x406013_24.length : Int) (decide (a2 ≥ a0_0)) a0_0 a0_1 a0_2 a0_3 a0_4 a0_5 a0_6 a0_7 a0_8 a0_9 l0_10 l0_11 l0_12 l0_13 a0_0 a0_1 a0_2 a0_3 a0_4 a0_5 a0_6 a0_7 a0_8 a0_9 l0_10 l0_11 l0_12 y415)) else (none)))) else (none)) = some r := by first | (rw [hy412]; with_reducible exact H) | (have H2_ := (Option.bind_some _ _).symm.trans H; rw [hy412]; with_reducible exact H2_) | (have H2_ := (Option.bind_some _ _).symm.trans H; with_reducible exact H2_) | with_reducible exact H | (rw [hy412]; exact H) | exact H
          have Ny412 := am_ hy412
          clear hy412
          by_cases c36 : y412.length < 977343669134
          ·rw [if_pos c36] at H
           have LMc36 := am_ c36
           clear c36
           obtain ⟨y415, hy415⟩ : ∃ y_ : List (S44), y_ = (y412 ++ [(⟨([] : List Int), ([] : List Int), ([] : List (S74)), ([] : List (S48)), ([] : List (S74)), ([] : List (S81))⟩ : S44)]) := ⟨_, rfl⟩
           replace H : ((script_Right.f kj24 a0_0 a0_1 a0_2 a0_3 a0_4 a0_5 a0_6 a0_7 a0_8 a0_9 l0_10 l0_11 l0_12 y415).bind fun t418 => (if t418 = 0 then (if a2 < 0 then (l33_ScriptCuts.j3 kj24 a2 (x406013_24.length : Int) true a0_0 a0_1 a0_2 a0_3 a0_4 a0_5 a0_6 a0_7 a0_8 a0_9 l0_10 l0_11 l0_12 l0_13 a0_0 a0_1 a0_2 a0_3 a0_4 a0_5 a0_6 a0_7 a0_8 a0_9 l0_10 l0_11 l0_12 y415) else (l33_ScriptCuts.j3 kj24 a2 (x406013_24.length : Int) (decide (a2 ≥ a0_0)) a0_0 a0_1 a0_2 a0_3 a0_4 a0_5 a0_6 a0_7 a0_8 a0_9 l0_10 l0_11 l0_12 l0_13 a0_0 a0_1 a0_2 a0_3 a0_4 a0_5 a0_6 a0_7 a0_8 a0_9 l0_10 l0_11 l0_12 y415)) else (none))) = some r := by first | (rw [hy415]; with_reducible exact H) | (have H2_ := (Option.bind_some _ _).symm.trans H; rw [hy415]; with_reducible exact H2_) | (have H2_ := (Option.bind_some _ _).symm.trans H; with_reducible exact H2_) | with_reducible exact H | (rw [hy415]; exact H) | exact H
           have Ny415 := am_ hy415
           clear hy415
           obtain ⟨t418, A37, H⟩ := bes_ H
           try dsimp only at H
           by_cases c38 : t418 = 0
           ·rw [if_pos c38] at H
            have c38b0 : (t418 == 0) = true := beq_iff_eq.mpr c38
            have c38b1 : (t418 != 0) = false := bne_eq_false_iff_eq.mpr c38
            clear c38
            have HC39 := am_ H
            clear H
            have hnb40 := NB405_401.out
            have hnc40 := NB401_405.out
            have hcz41 := cells_14 BK405.out
            have hfz41 := frozen_14 BK405.out
            obtain ⟨Ao42, co42, eo42⟩ := Kd.V_slice HO_406013.out
            subst eo42
            go_upto_region 15 with (first | ((with_reducible refine gate_load (t := 28) (x := .tmp 3) rfl ?_); refine lrg_ 28 (.tmp 3) gb401 28 (by (with_reducible repeat (first | apply kn_ | apply kd_ | apply ka_)); with_reducible exact BK401.out) Try.underlying28 ?_) | ((with_reducible refine gate_load (t := 28) (x := .tmp 7) rfl ?_); refine lrg_ 28 (.tmp 7) gb405 28 (by (with_reducible repeat (first | apply kn_ | apply kd_ | apply ka_)); with_reducible exact BK405.out) Try.underlying28 ?_) | ((with_reducible refine gate_load (t := 28) (x := .tmp 3) rfl ?_); refine load_row_g (cs := #[.int .i64 a0_0, .int .i64 a0_1, .int .i64 a0_2, .int .i64 a0_3, .int .i64 a0_4, .int .i64 a0_5, .int .i64 a0_6, .int .i64 a0_7, .int .i64 a0_8, .int .i64 a0_9, .slice A0_10 l0_10.length c0_10, .slice A0_11 l0_11.length c0_11, .slice A0_12 l0_12.length c0_12, .slice A0_13 l0_13.length c0_13]) ?hw 28 (.tmp 3) ?h2 gb401 ?hx 28 (fr := (0, 0)) (d := ?_) ?hg ?h3 ?h4 ?hi ?_; (case hw => first | (with_reducible rfl) | (go_simp; done) | rfl); (case h2 => rfl); (case hx => first | (with_reducible rfl) | (go_simp; done) | rfl); (case hg => exact (by (with_reducible repeat (first | apply kn_ | apply kd_ | apply ka_)); refine blk_far ?_ NB401_405.out _; (with_reducible repeat (first | apply kn_ | apply kd_ | apply ka_)); exact BK401.out)); (case h3 => exact Try.underlying28); (case h4 => rfl); (case hi => kernel_rfl)) | ((with_reducible refine gate_load (t := 28) (x := .tmp 7) rfl ?_); refine load_row_g (cs := #[.int .i64 a0_0, .int .i64 a0_1, .int .i64 a0_2, .int .i64 a0_3, .int .i64 a0_4, .int .i64 a0_5, .int .i64 a0_6, .int .i64 a0_7, .int .i64 a0_8, .int .i64 a0_9, .slice A0_10 l0_10.length c0_10, .slice A0_11 l0_11.length c0_11, .slice A0_12 l0_12.length c0_12, .slice Ao47 y415.length co47]) ?hw 28 (.tmp 7) ?h2 gb405 ?hx 28 (fr := (0, 0)) (d := ?_) ?hg ?h3 ?h4 ?hi ?_; (case hw => first | (with_reducible rfl) | (go_simp; done) | rfl); (case h2 => rfl); (case hx => first | (with_reducible rfl) | (go_simp; done) | rfl); (case hg => exact (by (with_reducible repeat (first | apply kn_ | apply kd_ | apply ka_)); refine blk_put (cs := #[.int .i64 a0_0, .int .i64 a0_1, .int .i64 a0_2, .int .i64 a0_3, .int .i64 a0_4, .int .i64 a0_5, .int .i64 a0_6, .int .i64 a0_7, .int .i64 a0_8, .int .i64 a0_9, .slice A0_10 l0_10.length c0_10, .slice A0_11 l0_11.length c0_11, .slice A0_12 l0_12.length c0_12, .slice Ao42 x406013_24.length co42]) ?_ 13 _ rfl; (with_reducible repeat (first | apply kn_ | apply kd_ | apply ka_)); exact BK405.out)); (case h3 => exact Try.underlying28); (case h4 => rfl); (case hi => kernel_rfl)) | ((with_reducible refine gate_callee (f := 12) rfl ?_); refine gom_ (some 35) Try.func12 (script_Right.calls kj24 a0_0 a0_1 a0_2 a0_3 a0_4 a0_5 a0_6 a0_7 a0_8 a0_9 _ _ l0_10 _ _ l0_11 _ _ l0_12 _ _ x406013_24 _ _ (Kd.C_below HR0_10.out HB.out) HC0_10.out (Kd.C_below HR0_11.out HB.out) HC0_11.out (Kd.C_below HR0_12.out HB.out) HC0_12.out (Kd.V_reads' HO_406013.out).2.2 (Kd.V_reads' HO_406013.out).2.1 A33.out) ?_; rintro e w43 ⟨rfl, hb⟩; refine ⟨_, rfl, ?_⟩; replace HO_402013 := am_ (Kd.V_below HO_402013.out hb); replace HO_406013 := am_ (Kd.V_below HO_406013.out hb); replace BK401 := bkb_ BK401 hb; replace BK405 := bkb_ BK405 hb; replace HB := bst_ HB hb; (try clear hb); have hall3_ := cells_14 BK405.out; have hall4_ := frozen_14 BK405.out) | ((with_reducible refine gate_builtin (b := .append) (xs := #[.tmp 40, .tmp 42]) rfl ?_); (try (refine gate_guard (by rfl) ?_; dsimp only)); at_builtin; refine Kd.N_append_rows k44 (w0 := w) w.heap.size rfl (.tmp 40) (.tmp 42) 26 44 (.agg #[(.slice none 0 0), (.slice none 0 0), (.slice none 0 0), (.slice none 0 0), (.slice none 0 0), (.slice none 0 0)]) 144 rfl Try.underlying26 info44 rfl (by decide) (by omega) (.slice none 0 0) ([] : List (S44)) x406013_24 _ _ _ (fun k_ => (P0_13_ k_ ∨ w.heap.size ≤ k_) ∧ k_ ≠ gb401 ∧ k_ ≠ gb405) (fun k_ => ((fun k_ => (P0_13_ k_ ∨ w.heap.size ≤ k_) ∧ k_ ≠ gb401 ∧ k_ ≠ gb405)) k_ ∧ some k_ ≠ (.slice none 0 0 : Value).ownBlock) rfl rfl ?aO ?aR (fun _ hk => hk) ?aF ?aB ?aS ?aL ?_; (case aR => exact (by skip; exact Kd.V_F (Kd.V_mono (ok' := (fun k_ => ((fun k_ => (P0_13_ k_ ∨ w.heap.size ≤ k_) ∧ k_ ≠ gb401 ∧ k_ ≠ gb405)) k_ ∧ some k_ ≠ (.slice none 0 0 : Value).ownBlock)) (HO_406013.out) (fun k_ hk => ⟨⟨hk.1, ⟨hk.2.1, hk.2.2⟩⟩, (by simp [Value.ownBlock])⟩)))); (case aB => exact (by repeat (first | (with_reducible first | exact HB.out | apply ba_ | apply bn_ | apply bd_ | refine bs_ ?_ GE401.out | refine bs_ ?_ GE405.out) | exact HB.out))); (case aF => exact (fun k_ hk => ⟨(.inr (Nat.le_trans (below_size HB.out) hk)), Kd.freshB (g := gb401) (o := .cells #[.int .i64 a0_0, .int .i64 a0_1, .int .i64 a0_2, .int .i64 a0_3, .int .i64 a0_4, .int .i64 a0_5, .int .i64 a0_6, .int .i64 a0_7, .int .i64 a0_8, .int .i64 a0_9, .slice A0_10 l0_10.length c0_10, .slice A0_11 l0_11.length c0_11, .slice A0_12 l0_12.length c0_12, .slice A0_13 l0_13.length c0_13] 28 (0, 0)) (by (with_reducible repeat (first | apply kn_ | apply kd_ | apply ka_)); exact BK401.out) k_ hk, Kd.freshB (g := gb405) (o := .cells #[.int .i64 a0_0, .int .i64 a0_1, .int .i64 a0_2, .int .i64 a0_3, .int .i64 a0_4, .int .i64 a0_5, .int .i64 a0_6, .int .i64 a0_7, .int .i64 a0_8, .int .i64 a0_9, .slice A0_10 l0_10.length c0_10, .slice A0_11 l0_11.length c0_11, .slice A0_12 l0_12.length c0_12, .slice Ao42 x406013_24.length co42] 28 (0, 0)) (by (with_reducible repeat (first | apply kn_ | apply kd_ | apply ka_)); exact BK405.out) k_ hk⟩)); (case aO => exact ((Kd.N_nil _ _ _ _ (fun k_ => (P0_13_ k_ ∨ w.heap.size ≤ k_) ∧ k_ ≠ gb401 ∧ k_ ≠ gb405)))); (case aS => exact (below_size HB.out)); (case aL => have := LMc35.out; omega); intro v413 w45 ho hb hg hat; rw [← Ny412.out] at ho; replace HO_402013 := am_ (Kd.V_afterv (Kd.V_apart_nil (by (with_reducible repeat (first | apply Kd.V_alloc | apply Kd.V_drewN | apply Kd.V_drew)); exact HO_402013.out)) hg hat); replace HO_406013 := am_ (Kd.V_afterv (Kd.V_apart_nil (by (with_reducible repeat (first | apply Kd.V_alloc | apply Kd.V_drewN | apply Kd.V_drew)); exact HO_406013.out)) hg hat); replace BK401 := am_ (blk_grown (g := gb401) (o := .cells #[.int .i64 a0_0, .int .i64 a0_1, .int .i64 a0_2, .int .i64 a0_3, .int .i64 a0_4, .int .i64 a0_5, .int .i64 a0_6, .int .i64 a0_7, .int .i64 a0_8, .int .i64 a0_9, .slice A0_10 l0_10.length c0_10, .slice A0_11 l0_11.length c0_11, .slice A0_12 l0_12.length c0_12, .slice A0_13 l0_13.length c0_13] 28 (0, 0)) (by (with_reducible repeat (first | apply kn_ | apply kd_ | apply ka_)); exact BK401.out) hg (by simp [Value.ownBlock])); replace BK405 := am_ (blk_grown (g := gb405) (o := .cells #[.int .i64 a0_0, .int .i64 a0_1, .int .i64 a0_2, .int .i64 a0_3, .int .i64 a0_4, .int .i64 a0_5, .int .i64 a0_6, .int .i64 a0_7, .int .i64 a0_8, .int .i64 a0_9, .slice A0_10 l0_10.length c0_10, .slice A0_11 l0_11.length c0_11, .slice A0_12 l0_12.length c0_12, .slice Ao42 x406013_24.length co42] 28 (0, 0)) (by (with_reducible repeat (first | apply kn_ | apply kd_ | apply ka_)); exact BK405.out) hg (by simp [Value.ownBlock])); replace HB := am_ (hb); have HO414 := am_ (ho); clear ho hb hg hat) | ((with_reducible refine gate_builtin (b := .append) (xs := #[.tmp 44, .tmp 46]) rfl ?_); (try (refine gate_guard (by rfl) ?_; dsimp only)); at_builtin; refine Kd.N_append k44 (w0 := w) w.heap.size rfl (.tmp 44) (.tmp 46) 26 44 (.agg #[(.slice none 0 0), (.slice none 0 0), (.slice none 0 0), (.slice none 0 0), (.slice none 0 0), (.slice none 0 0)]) 144 rfl Try.underlying26 info44 rfl (by decide) (by omega) v413 y412 (⟨([] : List Int), ([] : List Int), ([] : List (S74)), ([] : List (S48)), ([] : List (S74)), ([] : List (S81))⟩ : S44) [.slice none 0 0, .slice none 0 0, .slice none 0 0, .slice none 0 0, .slice none 0 0, .slice none 0 0] (fun k_ => (P0_13_ k_ ∨ w.heap.size ≤ k_) ∧ k_ ≠ gb401 ∧ k_ ≠ gb405) (fun k_ => ((fun k_ => (P0_13_ k_ ∨ w.heap.size ≤ k_) ∧ k_ ≠ gb401 ∧ k_ ≠ gb405)) k_ ∧ some k_ ≠ (v413 : Value).ownBlock) rfl rfl ?aP (fun _ hk => hk) ?aF ?aO ?aB ?aS ?aL ?_; (case aP => exact (k44_mkF _ _ (⟨([] : List Int), ([] : List Int), ([] : List (S74)), ([] : List (S48)), ([] : List (S74)), ([] : List (S81))⟩ : S44) (Nat.le_refl _) (Kd.F_nil _ _ _) (Nat.le_refl _) (Kd.F_nil _ _ _) (Nat.le_refl _) (Kd.F_nil _ _ _) (Nat.le_refl _) (Kd.F_nil _ _ _) (Nat.le_refl _) (Kd.F_nil _ _ _) (Nat.le_refl _) (Kd.F_nil _ _ _))); (case aB => exact (by repeat (first | (with_reducible first | exact HB.out | apply ba_ | apply bn_ | apply bd_ | refine bs_ ?_ GE401.out | refine bs_ ?_ GE405.out) | exact HB.out))); (case aF => exact (fun k_ hk => ⟨(.inr (Nat.le_trans (below_size HB.out) hk)), Kd.freshB (g := gb401) (o := .cells #[.int .i64 a0_0, .int .i64 a0_1, .int .i64 a0_2, .int .i64 a0_3, .int .i64 a0_4, .int .i64 a0_5, .int .i64 a0_6, .int .i64 a0_7, .int .i64 a0_8, .int .i64 a0_9, .slice A0_10 l0_10.length c0_10, .slice A0_11 l0_11.length c0_11, .slice A0_12 l0_12.length c0_12, .slice A0_13 l0_13.length c0_13] 28 (0, 0)) (by (with_reducible repeat (first | apply kn_ | apply kd_ | apply ka_)); exact BK401.out) k_ hk, Kd.freshB (g := gb405) (o := .cells #[.int .i64 a0_0, .int .i64 a0_1, .int .i64 a0_2, .int .i64 a0_3, .int .i64 a0_4, .int .i64 a0_5, .int .i64 a0_6, .int .i64 a0_7, .int .i64 a0_8, .int .i64 a0_9, .slice A0_10 l0_10.length c0_10, .slice A0_11 l0_11.length c0_11, .slice A0_12 l0_12.length c0_12, .slice Ao42 x406013_24.length co42] 28 (0, 0)) (by (with_reducible repeat (first | apply kn_ | apply kd_ | apply ka_)); exact BK405.out) k_ hk⟩)); (case aO => exact (by (with_reducible repeat (first | apply Kd.N_alloc | apply Kd.N_drewN | apply Kd.N_drew)); exact HO414.out)); (case aS => exact (below_size HB.out)); (case aL => have := LMc36.out; omega); intro v416 w46 ho hb hg hat; rw [← Ny415.out] at ho; replace HO_402013 := am_ (Kd.V_afterv (ok := (fun k_ => (P0_13_ k_ ∨ w.heap.size ≤ k_) ∧ k_ ≠ gb401 ∧ k_ ≠ gb405)) (by (with_reducible repeat (first | apply Kd.V_alloc | apply Kd.V_drewN | apply Kd.V_drew)); exact HO_402013.out) hg hat); replace HO_406013 := am_ (Kd.V_afterv (ok := (fun k_ => (P0_13_ k_ ∨ w.heap.size ≤ k_) ∧ k_ ≠ gb401 ∧ k_ ≠ gb405)) (by (with_reducible repeat (first | apply Kd.V_alloc | apply Kd.V_drewN | apply Kd.V_drew)); exact HO_406013.out) hg hat); replace BK401 := am_ (blk_grown (g := gb401) (o := .cells #[.int .i64 a0_0, .int .i64 a0_1, .int .i64 a0_2, .int .i64 a0_3, .int .i64 a0_4, .int .i64 a0_5, .int .i64 a0_6, .int .i64 a0_7, .int .i64 a0_8, .int .i64 a0_9, .slice A0_10 l0_10.length c0_10, .slice A0_11 l0_11.length c0_11, .slice A0_12 l0_12.length c0_12, .slice A0_13 l0_13.length c0_13] 28 (0, 0)) (by (with_reducible repeat (first | apply kn_ | apply kd_ | apply ka_)); exact BK401.out) hg (Kd.N_ne HO414.out BK401.out (by decide))); replace BK405 := am_ (blk_grown (g := gb405) (o := .cells #[.int .i64 a0_0, .int .i64 a0_1, .int .i64 a0_2, .int .i64 a0_3, .int .i64 a0_4, .int .i64 a0_5, .int .i64 a0_6, .int .i64 a0_7, .int .i64 a0_8, .int .i64 a0_9, .slice A0_10 l0_10.length c0_10, .slice A0_11 l0_11.length c0_11, .slice A0_12 l0_12.length c0_12, .slice Ao42 x406013_24.length co42] 28 (0, 0)) (by (with_reducible repeat (first | apply kn_ | apply kd_ | apply ka_)); exact BK405.out) hg (Kd.N_ne HO414.out BK405.out (by decide))); replace HB := am_ (hb); have HO417 := am_ (ho); clear HO414; clear ho hb hg hat; obtain ⟨Ao47, co47, eo47⟩ := Kd.N_slice HO417.out; subst eo47; have hall5_ := cells_14 BK405.out; have hall6_ := frozen_14 BK405.out) | ((with_reducible refine gate_callee (f := 12) rfl ?_); refine gom_ (some 51) Try.func12 (script_Right.calls kj24 a0_0 a0_1 a0_2 a0_3 a0_4 a0_5 a0_6 a0_7 a0_8 a0_9 _ _ l0_10 _ _ l0_11 _ _ l0_12 _ _ y415 _ _ ?side1 HC0_10.out ?side3 HC0_11.out ?side5 HC0_12.out ?side7 (Kd.N_reads' HO417.out).2.1 A37.out) ?_; (case side1 => exact Kd.C_below HR0_10.out (by repeat (first | (with_reducible first | exact HB.out | apply ba_ | apply bn_ | apply bd_ | refine bs_ ?_ GE401.out | refine bs_ ?_ GE405.out) | exact HB.out))); (case side3 => exact Kd.C_below HR0_11.out (by repeat (first | (with_reducible first | exact HB.out | apply ba_ | apply bn_ | apply bd_ | refine bs_ ?_ GE401.out | refine bs_ ?_ GE405.out) | exact HB.out))); (case side5 => exact Kd.C_below HR0_12.out (by repeat (first | (with_reducible first | exact HB.out | apply ba_ | apply bn_ | apply bd_ | refine bs_ ?_ GE401.out | refine bs_ ?_ GE405.out) | exact HB.out))); (case side7 => refine (Kd.N_reads' (e := 44) (base := w.heap.size) (ok := fun k_ => ((P0_13_ k_ ∨ w.heap.size ≤ k_) ∧ (k_ ≠ gb401 ∧ k_ ≠ gb405))) (n := y415.length) (c := co47) ?_).2.2; exact (by (with_reducible repeat (first | apply Kd.N_alloc | apply Kd.N_drewN | apply Kd.N_drew)); exact (Kd.N_mono (Kd.N_far (p := ⟨gb405, 13, none⟩) (Kd.N_mono HO417.out (fun k_ hk => (⟨hk, hk.2.2⟩ : _ ∧ k_ ≠ gb405))) (fun _ hk => hk.2) (.slice Ao47 y415.length co47)) (fun _ h_ => h_.1)))); rintro e w49 ⟨rfl, hb⟩; refine ⟨_, rfl, ?_⟩; replace HO_402013 := am_ (Kd.V_below (by (with_reducible repeat (first | apply Kd.V_alloc | apply Kd.V_drewN | apply Kd.V_drew)); exact (Kd.V_mono (Kd.V_far (p := ⟨gb405, 13, none⟩) (Kd.V_mono HO_402013.out (fun k_ hk => (⟨hk, hk.1.2.2⟩ : _ ∧ k_ ≠ gb405))) (fun _ hk => hk.2) (.slice Ao47 y415.length co47)) (fun _ h_ => h_.1))) hb); replace HO_406013 := am_ (Kd.V_below (by (with_reducible repeat (first | apply Kd.V_alloc | apply Kd.V_drewN | apply Kd.V_drew)); exact (Kd.V_mono (Kd.V_far (p := ⟨gb405, 13, none⟩) (Kd.V_mono HO_406013.out (fun k_ hk => (⟨hk, hk.1.2.2⟩ : _ ∧ k_ ≠ gb405))) (fun _ hk => hk.2) (.slice Ao47 y415.length co47)) (fun _ h_ => h_.1))) hb); replace HO417 := am_ (Kd.N_below (by (with_reducible repeat (first | apply Kd.N_alloc | apply Kd.N_drewN | apply Kd.N_drew)); exact (Kd.N_mono (Kd.N_far (p := ⟨gb405, 13, none⟩) (Kd.N_mono HO417.out (fun k_ hk => (⟨hk, hk.2.2⟩ : _ ∧ k_ ≠ gb405))) (fun _ hk => hk.2) (.slice Ao47 y415.length co47)) (fun _ h_ => h_.1))) hb); replace BK401 := am_ (blk_below (g := gb401) (o := .cells #[.int .i64 a0_0, .int .i64 a0_1, .int .i64 a0_2, .int .i64 a0_3, .int .i64 a0_4, .int .i64 a0_5, .int .i64 a0_6, .int .i64 a0_7, .int .i64 a0_8, .int .i64 a0_9, .slice A0_10 l0_10.length c0_10, .slice A0_11 l0_11.length c0_11, .slice A0_12 l0_12.length c0_12, .slice A0_13 l0_13.length c0_13] 28 (0, 0)) (by (with_reducible repeat (first | apply kn_ | apply kd_ | apply ka_)); refine blk_far ?_ NB401_405.out _; (with_reducible repeat (first | apply kn_ | apply kd_ | apply ka_)); exact BK401.out) hb); replace BK405 := am_ (blk_below (g := gb405) (o := .cells #[.int .i64 a0_0, .int .i64 a0_1, .int .i64 a0_2, .int .i64 a0_3, .int .i64 a0_4, .int .i64 a0_5, .int .i64 a0_6, .int .i64 a0_7, .int .i64 a0_8, .int .i64 a0_9, .slice A0_10 l0_10.length c0_10, .slice A0_11 l0_11.length c0_11, .slice A0_12 l0_12.length c0_12, .slice Ao47 y415.length co47] 28 (0, 0)) (by (with_reducible repeat (first | apply kn_ | apply kd_ | apply ka_)); refine blk_put (cs := #[.int .i64 a0_0, .int .i64 a0_1, .int .i64 a0_2, .int .i64 a0_3, .int .i64 a0_4, .int .i64 a0_5, .int .i64 a0_6, .int .i64 a0_7, .int .i64 a0_8, .int .i64 a0_9, .slice A0_10 l0_10.length c0_10, .slice A0_11 l0_11.length c0_11, .slice A0_12 l0_12.length c0_12, .slice Ao42 x406013_24.length co42]) ?_ 13 _ rfl; (with_reducible repeat (first | apply kn_ | apply kd_ | apply ka_)); exact BK405.out) hb); replace HB := am_ (below_step (by repeat (first | (with_reducible first | exact HB.out | apply ba_ | apply bn_ | apply bd_ | refine bs_ ?_ GE401.out | refine bs_ ?_ GE405.out) | exact HB.out)) hb); (try clear hb); (try clear hk)))
            (try simp only [Act.put, zs_])
            go_cut [61] (fun v61 wc => ∃ (kq : Nat) (x61_38 : Bool), v61 = .bool x61_38 ∧ Aside0 (l33_ScriptCuts.j3 kq a2 (x406013_24.length : Int) x61_38 a0_0 a0_1 a0_2 a0_3 a0_4 a0_5 a0_6 a0_7 a0_8 a0_9 l0_10 l0_11 l0_12 l0_13 a0_0 a0_1 a0_2 a0_3 a0_4 a0_5 a0_6 a0_7 a0_8 a0_9 l0_10 l0_11 l0_12 y415 = some r) ∧ Aside0 (kq ≤ kj24) ∧ Aside0 (Kd.V k44 44 wc w.heap.size (fun k_ => (P0_13_ k_ ∨ w.heap.size ≤ k_) ∧ some k_ ≠ ((.slice Ao47 y415.length co47) : Value).ownBlock ∧ k_ ≠ gb401 ∧ k_ ≠ gb405) (.slice A0_13 l0_13.length c0_13) l0_13) ∧ Aside0 (Kd.N k44 44 wc w.heap.size (fun k_ => (P0_13_ k_ ∨ w.heap.size ≤ k_) ∧ k_ ≠ gb401 ∧ k_ ≠ gb405) (.slice Ao47 y415.length co47) y415) ∧ Aside0 (wc.heap[gb401]? = some (.cells #[.int .i64 a0_0, .int .i64 a0_1, .int .i64 a0_2, .int .i64 a0_3, .int .i64 a0_4, .int .i64 a0_5, .int .i64 a0_6, .int .i64 a0_7, .int .i64 a0_8, .int .i64 a0_9, (.slice A0_10 l0_10.length c0_10), (.slice A0_11 l0_11.length c0_11), (.slice A0_12 l0_12.length c0_12), (.slice A0_13 l0_13.length c0_13)] 28 (0, 0))) ∧ Aside0 (wc.heap[gb405]? = some (.cells #[.int .i64 a0_0, .int .i64 a0_1, .int .i64 a0_2, .int .i64 a0_3, .int .i64 a0_4, .int .i64 a0_5, .int .i64 a0_6, .int .i64 a0_7, .int .i64 a0_8, .int .i64 a0_9, (.slice A0_10 l0_10.length c0_10), (.slice A0_11 l0_11.length c0_11), (.slice A0_12 l0_12.length c0_12), (.slice Ao47 y415.length co47)] 28 (0, 0))) ∧ Aside0 (Below w.heap.size w wc))
            case first =>
             have H := HC39.out
             clear HC39
             by_cases c50 : a2 < 0
             ·rw [if_pos c50] at H
              have c50b0 : decide (a2 < 0) = true := decide_eq_true c50
              clear c50
              (first | rw [c50b0] | (simp only [i64_w, i32_w]; rw [c50b0]) | skip)
              have H' := am_ H
              clear H
              go_wp2
              go_meet
              case rel => exact ⟨_, (true), (by first | rfl | (simp; done) | (simp [*]; done)), H', ⟨by have := HJ3.out; have := HJ17.out; have := HJ24.out; first | omega | exact Nat.le_refl _⟩, ⟨by (with_reducible repeat (first | apply Kd.V_alloc | apply Kd.V_drewN | apply Kd.V_drew)); exact Kd.V_mono HO_402013.out (fun _ hk => ⟨hk.1.1, ⟨hk.2, ⟨hk.1.2.1, hk.1.2.2⟩⟩⟩)⟩, ⟨by (with_reducible repeat (first | apply Kd.N_alloc | apply Kd.N_drewN | apply Kd.N_drew)); exact HO417.out⟩, ⟨by (with_reducible repeat (first | apply kn_ | apply kd_ | apply ka_)); exact BK401.out⟩, ⟨by (with_reducible repeat (first | apply kn_ | apply kd_ | apply ka_)); exact BK405.out⟩, ⟨by repeat (first | (with_reducible first | exact HB.out | apply ba_ | apply bn_ | apply bd_ | refine bs_ ?_ GE401.out | refine bs_ ?_ GE405.out) | exact HB.out)⟩⟩
             ·rw [if_neg c50] at H
              have c50b0 : decide (a2 < 0) = false := decide_eq_false c50
              clear c50
              (first | rw [c50b0] | (simp only [i64_w, i32_w]; rw [c50b0]) | skip)
              have H' := am_ H
              clear H
              have hnb51 := NB401_405.out
              have hnc51 := NB405_401.out
              have hcz52 := cells_14 BK401.out
              have hfz52 := frozen_14 BK401.out
              go_wp2
              go_meet
              case rel => exact ⟨_, (decide (a2 ≥ a0_0)), (by first | rfl | (simp; done) | (simp [*]; done)), H', ⟨by have := HJ3.out; have := HJ17.out; have := HJ24.out; first | omega | exact Nat.le_refl _⟩, ⟨by (with_reducible repeat (first | apply Kd.V_alloc | apply Kd.V_drewN | apply Kd.V_drew)); exact Kd.V_mono HO_402013.out (fun _ hk => ⟨hk.1.1, ⟨hk.2, ⟨hk.1.2.1, hk.1.2.2⟩⟩⟩)⟩, ⟨by (with_reducible repeat (first | apply Kd.N_alloc | apply Kd.N_drewN | apply Kd.N_drew)); exact HO417.out⟩, ⟨by (with_reducible repeat (first | apply kn_ | apply kd_ | apply ka_)); exact BK401.out⟩, ⟨by (with_reducible repeat (first | apply kn_ | apply kd_ | apply ka_)); exact BK405.out⟩, ⟨by repeat (first | (with_reducible first | exact HB.out | apply ba_ | apply bn_ | apply bd_ | refine bs_ ?_ GE401.out | refine bs_ ?_ GE405.out) | exact HB.out)⟩⟩
            case rest =>
             clear HC39
             try clear c1
             try clear c2
             try clear p2
             try clear c3
             try clear q3
             try clear c4
             try clear c5
             try clear c7
             try clear c10
             try clear c11
             try clear c12
             try clear c15
             try clear c22
             try clear c22b0
             try clear c23
             try clear c26
             try clear c27
             try clear c27b0
             try clear c27b1
             try clear c28
             try clear c28b0
             try clear c28b1
             try clear c29
             try clear q31
             try clear c34
             try clear c34b0
             try clear c34b1
             try clear c35
             try clear c36
             try clear c38
             try clear c38b0
             try clear c38b1
             try clear c40
             try clear c50
             try clear c50b0
             try clear c51
             try clear hcz11_0 hcz11_1 hcz11_2 hcz11_3 hcz11_4 hcz11_5 hcz11_6 hcz11_7 hcz11_8 hcz11_9 hcz11_10 hcz11_11 hcz11_12 hcz11_13
             try clear hcz13
             try clear hcz19
             try clear hcz24
             try clear hcz30
             try clear hcz32
             try clear hcz41
             try clear hcz44_0 hcz44_1 hcz44_2 hcz44_3 hcz44_4 hcz44_5 hcz44_6 hcz44_7 hcz44_8 hcz44_9 hcz44_10 hcz44_11 hcz44_12 hcz44_13
             try clear hcz48_0 hcz48_1 hcz48_2 hcz48_3 hcz48_4 hcz48_5 hcz48_6 hcz48_7 hcz48_8 hcz48_9 hcz48_10 hcz48_11 hcz48_12 hcz48_13
             try clear hcz52
             try clear hcz9
             try clear hfz11_0 hfz11_1 hfz11_2 hfz11_3 hfz11_4 hfz11_5 hfz11_6 hfz11_7 hfz11_8 hfz11_9 hfz11_10 hfz11_11 hfz11_12 hfz11_13
             try clear hfz13
             try clear hfz19
             try clear hfz24
             try clear hfz30
             try clear hfz32
             try clear hfz41
             try clear hfz44_0 hfz44_1 hfz44_2 hfz44_3 hfz44_4 hfz44_5 hfz44_6 hfz44_7 hfz44_8 hfz44_9 hfz44_10 hfz44_11 hfz44_12 hfz44_13
             try clear hfz48_0 hfz48_1 hfz48_2 hfz48_3 hfz48_4 hfz48_5 hfz48_6 hfz48_7 hfz48_8 hfz48_9 hfz48_10 hfz48_11 hfz48_12 hfz48_13
             try clear hfz52
             try clear hfz9
             try clear p2
             try clear q3
             try clear q31
             obtain ⟨kq, x61_38, rfl, HA, HJ38, HO_402013, HO_406013, BK401, BK405, HB⟩ := hcut
             cases kq with
             | zero => exact absurd HA.out (by simp [l33_ScriptCuts.j3])
             | succ kj38 =>
              have H := HA.out
              clear HA
              simp only [l33_ScriptCuts.j3] at H
              by_cases c53 : x61_38 = true
              ·subst c53
               rw [if_pos rfl] at H
               obtain ⟨t419, A54, H⟩ := bes_ H
               try dsimp only at H
               by_cases c55 : t419 = 0
               ·rw [if_pos c55] at H
                have c55b0 : (t419 == 0) = true := beq_iff_eq.mpr c55
                have c55b1 : (t419 != 0) = false := bne_eq_false_iff_eq.mpr c55
                clear c55
                obtain ⟨t420, A56, H⟩ := bes_ H
                try dsimp only at H
                by_cases c57 : t420 = 0
                ·rw [if_pos c57] at H
                 have c57b0 : (t420 == 0) = true := beq_iff_eq.mpr c57
                 have c57b1 : (t420 != 0) = false := bne_eq_false_iff_eq.mpr c57
                 clear c57
                 obtain ⟨t421, A58, H⟩ := bes_ H
                 try dsimp only at H
                 obtain rfl := Option.some.inj H
                 have hnb59 := NB405_401.out
                 have hnc59 := NB401_405.out
                 have hcz60 := cells_14 BK405.out
                 have hfz60 := frozen_14 BK405.out
                 go_wp2_with (first | ((with_reducible refine gate_load (t := 28) (x := .tmp 3) rfl ?_); refine lrg_ 28 (.tmp 3) gb401 28 (by (with_reducible repeat (first | apply kn_ | apply kd_ | apply ka_)); with_reducible exact BK401.out) Try.underlying28 ?_) | ((with_reducible refine gate_load (t := 28) (x := .tmp 7) rfl ?_); refine lrg_ 28 (.tmp 7) gb405 28 (by (with_reducible repeat (first | apply kn_ | apply kd_ | apply ka_)); with_reducible exact BK405.out) Try.underlying28 ?_) | ((with_reducible refine gate_callee (f := 14) rfl ?_); refine gom_ (some 65) Try.func14 (script_Units.calls kj38 a0_0 a0_1 a0_2 a0_3 a0_4 a0_5 a0_6 a0_7 a0_8 a0_9 _ _ l0_10 _ _ l0_11 _ _ l0_12 _ _ y415 (x406013_24.length : Int) a2 t419 _ (Kd.C_below HR0_10.out HB.out) HC0_10.out (Kd.C_below HR0_11.out HB.out) HC0_11.out (Kd.C_below HR0_12.out HB.out) HC0_12.out (Kd.N_reads' HO_406013.out).2.2 (Kd.N_reads' HO_406013.out).2.1 A54.out) ?_; rintro e w61 ⟨rfl, hb⟩; refine ⟨_, rfl, ?_⟩; replace HO_402013 := am_ (Kd.V_below HO_402013.out hb); replace HO_406013 := am_ (Kd.N_below HO_406013.out hb); replace BK401 := bkb_ BK401 hb; replace BK405 := bkb_ BK405 hb; replace HB := bst_ HB hb; (try clear hb); have hall7_ := cells_14 BK405.out; have hall8_ := frozen_14 BK405.out) | (go_at_call 16; (with_reducible refine (script_Delay.calls kj38 a0_0 a0_1 a0_2 a0_3 a0_4 a0_5 a0_6 a0_7 a0_8 a0_9 _ _ l0_10 _ _ l0_11 _ _ l0_12 _ _ y415 (x406013_24.length : Int) a2 0 t420 _ (Kd.C_below HR0_10.out HB.out) HC0_10.out (Kd.C_below HR0_11.out HB.out) HC0_11.out (Kd.C_below HR0_12.out HB.out) HC0_12.out (Kd.N_reads' HO_406013.out).2.2 (Kd.N_reads' HO_406013.out).2.1 A56.out).mono ?_); rintro e w63 ⟨rfl, hb⟩; replace HO_402013 := am_ (Kd.V_below HO_402013.out hb); replace HO_406013 := am_ (Kd.N_below HO_406013.out hb); replace BK401 := bkb_ BK401 hb; replace BK405 := bkb_ BK405 hb; replace HB := bst_ HB hb; (try clear hb)) | (go_at_call 11; (with_reducible refine (l33_known.calls kj38  _ _ A58.out).mono ?_); rintro e w64 ⟨rfl, hb⟩; replace HO_402013 := am_ (Kd.V_below HO_402013.out hb); replace HO_406013 := am_ (Kd.N_below HO_406013.out hb); replace BK401 := bkb_ BK401 hb; replace BK405 := bkb_ BK405 hb; replace HB := bst_ HB hb; (try clear hb)))
                 go_ret
                 exact ⟨by first | rfl | (simp [*] <;> rfl), by repeat (first | (with_reducible first | exact HB.out | apply ba_ | apply bn_ | apply bd_ | refine bs_ ?_ GE401.out | refine bs_ ?_ GE405.out) | exact HB.out)⟩
                ·rw [if_neg c57] at H
                 exact absurd H (by simp)
               ·rw [if_neg c55] at H
                exact absurd H (by simp)
              ·replace c53 := Bool.eq_false_iff.mpr c53
               subst c53
               rw [if_neg (show ¬ (false = true) by decide)] at H
               obtain ⟨t422, A65, H⟩ := bes_ H
               try dsimp only at H
               by_cases c66 : t422 = a0_4
               ·rw [if_pos c66] at H
                have c66b0 : (t422 == a0_4) = true := beq_iff_eq.mpr c66
                have c66b1 : (t422 != a0_4) = false := bne_eq_false_iff_eq.mpr c66
                clear c66
                obtain ⟨t423, A67, H⟩ := bes_ H
                try dsimp only at H
                by_cases c68 : t423 = a0_2
                ·rw [if_pos c68] at H
                 have c68b0 : (t423 == a0_2) = true := beq_iff_eq.mpr c68
                 have c68b1 : (t423 != a0_2) = false := bne_eq_false_iff_eq.mpr c68
                 clear c68
                 obtain ⟨t424, A69, H⟩ := bes_ H
                 try dsimp only at H
                 by_cases c70 : t424 = a0_2
                 ·rw [if_pos c70] at H
                  have c70b0 : (t424 == a0_2) = true := beq_iff_eq.mpr c70
                  have c70b1 : (t424 != a0_2) = false := bne_eq_false_iff_eq.mpr c70
                  clear c70
                  obtain ⟨t425, A71, H⟩ := bes_ H
                  try dsimp only at H
                  obtain rfl := Option.some.inj H
                  try go_wp2
                  replace HO_402013 := am_ (Kd.V_drew HO_402013.out)
                  replace HO_406013 := am_ (Kd.N_drew HO_406013.out)
                  replace BK401 := am_ (blk_drew BK401.out)
                  replace BK405 := am_ (blk_drew BK405.out)
                  replace HB := am_ (below_drew1 HB.out)
                  refine start_ (n := 32) (S := fun w' => ce_ w' gb405 0 (.int .i64 a0_0) ∧ ce_ w' gb405 1 (.int .i64 a0_1) ∧ ce_ w' gb405 2 (.int .i64 a0_2) ∧ ce_ w' gb405 3 (.int .i64 a0_3) ∧ ce_ w' gb405 4 (.int .i64 a0_4) ∧ ce_ w' gb405 5 (.int .i64 a0_5) ∧ ce_ w' gb405 6 (.int .i64 a0_6) ∧ ce_ w' gb405 7 (.int .i64 a0_7) ∧ ce_ w' gb405 8 (.int .i64 a0_8) ∧ ce_ w' gb405 9 (.int .i64 a0_9) ∧ ce_ w' gb405 10 (.slice A0_10 l0_10.length c0_10) ∧ ce_ w' gb405 11 (.slice A0_11 l0_11.length c0_11) ∧ ce_ w' gb405 12 (.slice A0_12 l0_12.length c0_12) ∧ ce_ w' gb405 13 (.slice Ao47 y415.length co47) ∧ ce_ w' gb401 0 (.int .i64 a0_0) ∧ ce_ w' gb401 1 (.int .i64 a0_1) ∧ ce_ w' gb401 2 (.int .i64 a0_2) ∧ ce_ w' gb401 3 (.int .i64 a0_3) ∧ ce_ w' gb401 4 (.int .i64 a0_4) ∧ ce_ w' gb401 5 (.int .i64 a0_5) ∧ ce_ w' gb401 6 (.int .i64 a0_6) ∧ ce_ w' gb401 7 (.int .i64 a0_7) ∧ ce_ w' gb401 8 (.int .i64 a0_8) ∧ ce_ w' gb401 9 (.int .i64 a0_9) ∧ ce_ w' gb401 10 (.slice A0_10 l0_10.length c0_10) ∧ ce_ w' gb401 11 (.slice A0_11 l0_11.length c0_11) ∧ ce_ w' gb401 12 (.slice A0_12 l0_12.length c0_12) ∧ ce_ w' gb401 13 (.slice A0_13 l0_13.length c0_13)) (ds := []) #[false, false, false, false, false, false, false, false, false, false, false, false, false, false, false, false, false, false, false, false, false, false, false, false, false, false, false, false, false, false, false, false] (by kernel_rfl) rfl rfl ⟨(blk_cell BK405.out 0).trans rfl, (blk_cell BK405.out 1).trans rfl, (blk_cell BK405.out 2).trans rfl, (blk_cell BK405.out 3).trans rfl, (blk_cell BK405.out 4).trans rfl, (blk_cell BK405.out 5).trans rfl, (blk_cell BK405.out 6).trans rfl, (blk_cell BK405.out 7).trans rfl, (blk_cell BK405.out 8).trans rfl, (blk_cell BK405.out 9).trans rfl, (blk_cell BK405.out 10).trans rfl, (blk_cell BK405.out 11).trans rfl, (blk_cell BK405.out 12).trans rfl, (blk_cell BK405.out 13).trans rfl, (blk_cell BK401.out 0).trans rfl, (blk_cell BK401.out 1).trans rfl, (blk_cell BK401.out 2).trans rfl, (blk_cell BK401.out 3).trans rfl, (blk_cell BK401.out 4).trans rfl, (blk_cell BK401.out 5).trans rfl, (blk_cell BK401.out 6).trans rfl, (blk_cell BK401.out 7).trans rfl, (blk_cell BK401.out 8).trans rfl, (blk_cell BK401.out 9).trans rfl, (blk_cell BK401.out 10).trans rfl, (blk_cell BK401.out 11).trans rfl, (blk_cell BK401.out 12).trans rfl, (blk_cell BK401.out 13).trans rfl⟩ (fun hHeld => ?_); refine with_tabW l33_ScriptCuts.tab17 l33_ScriptCuts.bits17 (fun HT_ HW_ => ?_)
                  generalize wc.drew = w72 at HO_402013 HO_406013 BK401 BK405 HB hHeld ⊢
                  refine pur_ 1 (some 78) rfl rfl (any_of HT_.out (by kernel_rfl)) ?_
                  refine pur_ 2 (some 79) rfl rfl (any_of HT_.out (by kernel_rfl)) ?_
                  refine pur_ 4 (some 81) rfl rfl (any_of HT_.out (by kernel_rfl)) ?_
                  refine pur_ 5 (some 82) rfl rfl (any_of HT_.out (by kernel_rfl)) ?_
                  refine tak_ 0 (some 77) rfl rfl (take_ofW HT_.out HW_.out (by kernel_rfl)) hHeld ?_ (by rintro w' ⟨s0, s1, s2, s3, s4, s5, s6, s7, s8, s9, s10, s11, s12, s13, s14, s15, s16, s17, s18, s19, s20, s21, s22, s23, s24, s25, s26, s27⟩; (first | (refine load_cells_14 (ty := 28) (x := .tmp 3) (g := gb401) ?hlo_ ?hx_ Try.underlying28 ?hd_ ?hi_ s14 s15 s16 s17 s18 s19 s20 s21 s22 s23 s24 s25 s26 s27; (case hlo_ => rfl); (case hx_ => rfl); (case hd_ => rfl); (case hi_ => kernel_rfl)) | (refine load_cells_14 (ty := 28) (x := .tmp 7) (g := gb405) ?hlo_ ?hx_ Try.underlying28 ?hd_ ?hi_ s0 s1 s2 s3 s4 s5 s6 s7 s8 s9 s10 s11 s12 s13; (case hlo_ => rfl); (case hx_ => rfl); (case hd_ => rfl); (case hi_ => kernel_rfl)) | (go_simp; with_reducible rfl)))
                  refine tak_ 6 (some 83) rfl rfl (take_ofW HT_.out HW_.out (by kernel_rfl)) hHeld ?_ (by rintro w' ⟨s0, s1, s2, s3, s4, s5, s6, s7, s8, s9, s10, s11, s12, s13, s14, s15, s16, s17, s18, s19, s20, s21, s22, s23, s24, s25, s26, s27⟩; (first | (refine load_cells_14 (ty := 28) (x := .tmp 3) (g := gb401) ?hlo_ ?hx_ Try.underlying28 ?hd_ ?hi_ s14 s15 s16 s17 s18 s19 s20 s21 s22 s23 s24 s25 s26 s27; (case hlo_ => rfl); (case hx_ => rfl); (case hd_ => rfl); (case hi_ => kernel_rfl)) | (refine load_cells_14 (ty := 28) (x := .tmp 7) (g := gb405) ?hlo_ ?hx_ Try.underlying28 ?hd_ ?hi_ s0 s1 s2 s3 s4 s5 s6 s7 s8 s9 s10 s11 s12 s13; (case hlo_ => rfl); (case hx_ => rfl); (case hd_ => rfl); (case hi_ => kernel_rfl)) | (go_simp; with_reducible rfl)))
                  refine oon_ 3 (some 80) rfl rfl (one_of HT_.out (by kernel_rfl)) (fun K hK => ?_)
                  refine gos_ Try.func14 (script_Units.calls kj38 a0_0 a0_1 a0_2 a0_3 a0_4 a0_5 a0_6 a0_7 a0_8 a0_9 _ _ l0_10 _ _ l0_11 _ _ l0_12 _ _ y415 (x406013_24.length : Int) a2 t422 _ (Kd.C_below HR0_10.out HB.out) HC0_10.out (Kd.C_below HR0_11.out HB.out) HC0_11.out (Kd.C_below HR0_12.out HB.out) HC0_12.out (Kd.N_reads' HO_406013.out).2.2 (Kd.N_reads' HO_406013.out).2.1 A65.out) ?_
                  rintro e w73 ⟨rfl, hb⟩
                  refine ⟨_, rfl, ?_⟩
                  replace HO_402013 := am_ (Kd.V_below HO_402013.out hb)
                  replace HO_406013 := am_ (Kd.N_below HO_406013.out hb)
                  replace BK401 := bkb_ BK401 hb
                  replace BK405 := bkb_ BK405 hb
                  replace HB := bst_ HB hb
                  (try clear hb)
                  (try clear hb2)
                  (try clear hk)
                  (try clear hi)
                  refine hK.out _ _ (and_14 BK405.out (cells_14 BK401.out)) (fun hHeld => ?_)
                  clear hK K
                  refine nor_ 80 ?_
                  refine pur_ 7 (some 84) rfl rfl (any_of HT_.out (by kernel_rfl)) ?_
                  refine pur_ 8 (some 85) rfl rfl (any_of HT_.out (by kernel_rfl)) ?_
                  refine pur_ 10 (some 87) rfl rfl (any_of HT_.out (by kernel_rfl)) ?_
                  refine pur_ 11 (some 88) rfl rfl (any_of HT_.out (by kernel_rfl)) ?_
                  refine pur_ 13 (some 90) rfl rfl (any_of HT_.out (by kernel_rfl)) ?_
                  refine pur_ 14 (some 91) rfl rfl (any_of HT_.out (by kernel_rfl)) ?_
                  refine tak_ 9 (some 86) rfl rfl (take_ofW HT_.out HW_.out (by kernel_rfl)) hHeld ?_ (by rintro w' ⟨s0, s1, s2, s3, s4, s5, s6, s7, s8, s9, s10, s11, s12, s13, s14, s15, s16, s17, s18, s19, s20, s21, s22, s23, s24, s25, s26, s27⟩; (first | (refine load_cells_14 (ty := 28) (x := .tmp 3) (g := gb401) ?hlo_ ?hx_ Try.underlying28 ?hd_ ?hi_ s14 s15 s16 s17 s18 s19 s20 s21 s22 s23 s24 s25 s26 s27; (case hlo_ => rfl); (case hx_ => rfl); (case hd_ => rfl); (case hi_ => kernel_rfl)) | (refine load_cells_14 (ty := 28) (x := .tmp 7) (g := gb405) ?hlo_ ?hx_ Try.underlying28 ?hd_ ?hi_ s0 s1 s2 s3 s4 s5 s6 s7 s8 s9 s10 s11 s12 s13; (case hlo_ => rfl); (case hx_ => rfl); (case hd_ => rfl); (case hi_ => kernel_rfl)) | (go_simp; with_reducible rfl)))
                  refine tak_ 15 (some 92) rfl rfl (take_ofW HT_.out HW_.out (by kernel_rfl)) hHeld ?_ (by rintro w' ⟨s0, s1, s2, s3, s4, s5, s6, s7, s8, s9, s10, s11, s12, s13, s14, s15, s16, s17, s18, s19, s20, s21, s22, s23, s24, s25, s26, s27⟩; (first | (refine load_cells_14 (ty := 28) (x := .tmp 3) (g := gb401) ?hlo_ ?hx_ Try.underlying28 ?hd_ ?hi_ s14 s15 s16 s17 s18 s19 s20 s21 s22 s23 s24 s25 s26 s27; (case hlo_ => rfl); (case hx_ => rfl); (case hd_ => rfl); (case hi_ => kernel_rfl)) | (refine load_cells_14 (ty := 28) (x := .tmp 7) (g := gb405) ?hlo_ ?hx_ Try.underlying28 ?hd_ ?hi_ s0 s1 s2 s3 s4 s5 s6 s7 s8 s9 s10 s11 s12 s13; (case hlo_ => rfl); (case hx_ => rfl); (case hd_ => rfl); (case hi_ => kernel_rfl)) | (go_simp; with_reducible rfl)))
                  refine oon_ 12 (some 89) rfl rfl (one_of HT_.out (by kernel_rfl)) (fun K hK => ?_)
                  refine gos_ Try.func16 (script_Delay.calls kj38 a0_0 a0_1 a0_2 a0_3 a0_4 a0_5 a0_6 a0_7 a0_8 a0_9 _ _ l0_10 _ _ l0_11 _ _ l0_12 _ _ y415 (x406013_24.length : Int) a2 0 t423 _ (Kd.C_below HR0_10.out HB.out) HC0_10.out (Kd.C_below HR0_11.out HB.out) HC0_11.out (Kd.C_below HR0_12.out HB.out) HC0_12.out (Kd.N_reads' HO_406013.out).2.2 (Kd.N_reads' HO_406013.out).2.1 A67.out) ?_
                  rintro e w74 ⟨rfl, hb⟩
                  refine ⟨_, rfl, ?_⟩
                  replace HO_402013 := am_ (Kd.V_below HO_402013.out hb)
                  replace HO_406013 := am_ (Kd.N_below HO_406013.out hb)
                  replace BK401 := bkb_ BK401 hb
                  replace BK405 := bkb_ BK405 hb
                  replace HB := bst_ HB hb
                  (try clear hb)
                  (try clear hb2)
                  (try clear hk)
                  (try clear hi)
                  refine hK.out _ _ (and_14 BK405.out (cells_14 BK401.out)) (fun hHeld => ?_)
                  clear hK K
                  refine nor_ 89 ?_
                  refine pur_ 16 (some 93) rfl rfl (any_of HT_.out (by kernel_rfl)) ?_
                  refine pur_ 17 (some 94) rfl rfl (any_of HT_.out (by kernel_rfl)) ?_
                  refine pur_ 18 (some 95) rfl rfl (any_of HT_.out (by kernel_rfl)) ?_
                  refine pur_ 20 (some 97) rfl rfl (any_of HT_.out (by kernel_rfl)) ?_
                  refine pur_ 21 (some 98) rfl rfl (any_of HT_.out (by kernel_rfl)) ?_
                  refine pur_ 23 (some 100) rfl rfl (any_of HT_.out (by kernel_rfl)) ?_
                  refine pur_ 24 (some 101) rfl rfl (any_of HT_.out (by kernel_rfl)) ?_
                  refine tak_ 19 (some 96) rfl rfl (take_ofW HT_.out HW_.out (by kernel_rfl)) hHeld ?_ (by rintro w' ⟨s0, s1, s2, s3, s4, s5, s6, s7, s8, s9, s10, s11, s12, s13, s14, s15, s16, s17, s18, s19, s20, s21, s22, s23, s24, s25, s26, s27⟩; (first | (refine load_cells_14 (ty := 28) (x := .tmp 3) (g := gb401) ?hlo_ ?hx_ Try.underlying28 ?hd_ ?hi_ s14 s15 s16 s17 s18 s19 s20 s21 s22 s23 s24 s25 s26 s27; (case hlo_ => rfl); (case hx_ => rfl); (case hd_ => rfl); (case hi_ => kernel_rfl)) | (refine load_cells_14 (ty := 28) (x := .tmp 7) (g := gb405) ?hlo_ ?hx_ Try.underlying28 ?hd_ ?hi_ s0 s1 s2 s3 s4 s5 s6 s7 s8 s9 s10 s11 s12 s13; (case hlo_ => rfl); (case hx_ => rfl); (case hd_ => rfl); (case hi_ => kernel_rfl)) | (go_simp; with_reducible rfl)))
                  refine tak_ 25 (some 102) rfl rfl (take_ofW HT_.out HW_.out (by kernel_rfl)) hHeld ?_ (by rintro w' ⟨s0, s1, s2, s3, s4, s5, s6, s7, s8, s9, s10, s11, s12, s13, s14, s15, s16, s17, s18, s19, s20, s21, s22, s23, s24, s25, s26, s27⟩; (first | (refine load_cells_14 (ty := 28) (x := .tmp 3) (g := gb401) ?hlo_ ?hx_ Try.underlying28 ?hd_ ?hi_ s14 s15 s16 s17 s18 s19 s20 s21 s22 s23 s24 s25 s26 s27; (case hlo_ => rfl); (case hx_ => rfl); (case hd_ => rfl); (case hi_ => kernel_rfl)) | (refine load_cells_14 (ty := 28) (x := .tmp 7) (g := gb405) ?hlo_ ?hx_ Try.underlying28 ?hd_ ?hi_ s0 s1 s2 s3 s4 s5 s6 s7 s8 s9 s10 s11 s12 s13; (case hlo_ => rfl); (case hx_ => rfl); (case hd_ => rfl); (case hi_ => kernel_rfl)) | (go_simp; with_reducible rfl)))
                  refine oon_ 22 (some 99) rfl rfl (one_of HT_.out (by kernel_rfl)) (fun K hK => ?_)
                  refine gos_ Try.func16 (script_Delay.calls kj38 a0_0 a0_1 a0_2 a0_3 a0_4 a0_5 a0_6 a0_7 a0_8 a0_9 _ _ l0_10 _ _ l0_11 _ _ l0_12 _ _ y415 (x406013_24.length : Int) 0 a2 t424 _ (Kd.C_below HR0_10.out HB.out) HC0_10.out (Kd.C_below HR0_11.out HB.out) HC0_11.out (Kd.C_below HR0_12.out HB.out) HC0_12.out (Kd.N_reads' HO_406013.out).2.2 (Kd.N_reads' HO_406013.out).2.1 A69.out) ?_
                  rintro e w75 ⟨rfl, hb⟩
                  refine ⟨_, rfl, ?_⟩
                  replace HO_402013 := am_ (Kd.V_below HO_402013.out hb)
                  replace HO_406013 := am_ (Kd.N_below HO_406013.out hb)
                  replace BK401 := bkb_ BK401 hb
                  replace BK405 := bkb_ BK405 hb
                  replace HB := bst_ HB hb
                  (try clear hb)
                  (try clear hb2)
                  (try clear hk)
                  (try clear hi)
                  refine hK.out _ _ (and_14 BK405.out (cells_14 BK401.out)) (fun hHeld => ?_)
                  clear hK K
                  refine nor_ 99 ?_
                  refine pur_ 26 (some 103) rfl rfl (any_of HT_.out (by kernel_rfl)) ?_
                  refine pur_ 27 (some 104) rfl rfl (any_of HT_.out (by kernel_rfl)) ?_
                  refine pur_ 28 (some 105) rfl rfl (any_of HT_.out (by kernel_rfl)) ?_
                  refine oon_ 29 (some 106) rfl rfl (one_of HT_.out (by kernel_rfl)) (fun K hK => ?_)
                  refine gos_ Try.func11 (l33_known.calls kj38  _ _ A71.out) ?_
                  rintro e w76 ⟨rfl, hb⟩
                  refine ⟨_, rfl, ?_⟩
                  replace HO_402013 := am_ (Kd.V_below HO_402013.out hb)
                  replace HO_406013 := am_ (Kd.N_below HO_406013.out hb)
                  replace BK401 := bkb_ BK401 hb
                  replace BK405 := bkb_ BK405 hb
                  replace HB := bst_ HB hb
                  (try clear hb)
                  (try clear hb2)
                  (try clear hk)
                  (try clear hi)
                  refine hK.out _ _ (and_14 BK405.out (cells_14 BK401.out)) (fun hHeld => ?_)
                  clear hK K
                  refine nor_ 106 ?_
                  refine pur_ 30 (some 107) rfl rfl (any_of HT_.out (by kernel_rfl)) ?_
                  refine pur_ 31 (some 6) rfl rfl (any_of HT_.out (by kernel_rfl)) ?_
                  refine done_ (done_of HT_.out (by kernel_rfl)) ?_
                  try go_wp2
                  go_ret
                  exact ⟨by first | rfl | (simp [*] <;> rfl), by repeat (first | (with_reducible first | exact HB.out | apply ba_ | apply bn_ | apply bd_ | refine bs_ ?_ GE401.out | refine bs_ ?_ GE405.out) | exact HB.out)⟩
                 ·rw [if_neg c70] at H
                  have c70b0 : (t424 == a0_2) = false := beq_eq_false_iff_ne.mpr c70
                  have c70b1 : (t424 != a0_2) = true := bne_iff_ne.mpr c70
                  exact absurd H (by simp)
                ·rw [if_neg c68] at H
                 have c68b0 : (t423 == a0_2) = false := beq_eq_false_iff_ne.mpr c68
                 have c68b1 : (t423 != a0_2) = true := bne_iff_ne.mpr c68
                 exact absurd H (by simp)
               ·rw [if_neg c66] at H
                have c66b0 : (t422 == a0_4) = false := beq_eq_false_iff_ne.mpr c66
                have c66b1 : (t422 != a0_4) = true := bne_iff_ne.mpr c66
                exact absurd H (by simp)
           ·rw [if_neg c38] at H
            exact absurd H (by simp)
          ·rw [if_neg c36] at H
           exact absurd H (by simp)
         ·rw [if_neg c35] at H
          exact absurd H (by simp)
        ·rw [if_neg c34] at H
         exact absurd H (by simp)
theorem l33_ScriptCuts.calls (k : Nat) (a0_0 a0_1 a0_2 a0_3 a0_4 a0_5 a0_6 a0_7 a0_8 a0_9 : Int) (A0_10 : Option Addr) (c0_10 : Nat) (l0_10 : List Int) (A0_11 : Option Addr) (c0_11 : Nat) (l0_11 : List Int) (A0_12 : Option Addr) (c0_12 : Nat) (l0_12 : List ByteArray) (A0_13 : Option Addr) (c0_13 : Nat) (l0_13 : List (S44)) (a1 a2 : Int) (r : Bool) (w : World) (hr0_10 : Kd.C (Kd.int .i64) w A0_10 l0_10.length l0_10) (hc0_10 : l0_10.length ≤ c0_10) (hr0_11 : Kd.C (Kd.int .i64) w A0_11 l0_11.length l0_11) (hc0_11 : l0_11.length ≤ c0_11) (hr0_12 : Kd.C Kd.string w A0_12 l0_12.length l0_12) (hc0_12 : l0_12.length ≤ c0_12) (hr0_13 : Kd.C k44 w A0_13 l0_13.length l0_13) (hc0_13 : l0_13.length ≤ c0_13) (h : l33_ScriptCuts.f k a0_0 a0_1 a0_2 a0_3 a0_4 a0_5 a0_6 a0_7 a0_8 a0_9 l0_10 l0_11 l0_12 l0_13 a1 a2 = some r) :
    Calls Try.prog 5 #[.agg #[.int .i64 a0_0, .int .i64 a0_1, .int .i64 a0_2, .int .i64 a0_3, .int .i64 a0_4, .int .i64 a0_5, .int .i64 a0_6, .int .i64 a0_7, .int .i64 a0_8, .int .i64 a0_9, .slice A0_10 l0_10.length c0_10, .slice A0_11 l0_11.length c0_11, .slice A0_12 l0_12.length c0_12, .slice A0_13 l0_13.length c0_13], .int .i64 a1, .int .i64 a2] w fun e w' => e = .returned (.bool r) ∧ Below w.heap.size w w' :=
 l33_ScriptCuts.callsV k a0_0 a0_1 a0_2 a0_3 a0_4 a0_5 a0_6 a0_7 a0_8 a0_9 A0_10 c0_10 l0_10 A0_11 c0_11 l0_11 A0_12 c0_12 l0_12 (fun k_ => k_ < w.heap.size) A0_13 c0_13 l0_13 a1 a2 r w hr0_10 hc0_10 hr0_11 hc0_11 hr0_12 hc0_12 (Kd.V_mk hc0_13 (Kd.C_F k44_heap hr0_13)) h
end Go.Proofs.Ythdoghhmooodjaa.Gn
