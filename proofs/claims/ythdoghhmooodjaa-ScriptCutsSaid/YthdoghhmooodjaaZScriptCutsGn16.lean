import Derived.Test.YthdoghhmooodjaaZScriptCutsGn0
import Derived.Test.YthdoghhmooodjaaZScriptCutsGn1
import Derived.Test.YthdoghhmooodjaaZScriptCutsGn6
import Derived.Test.YthdoghhmooodjaaZScriptCutsGn10
import Derived.Test.YthdoghhmooodjaaZScriptCutsGn15
namespace Go.Proofs.Ythdoghhmooodjaa.Gn
open Go.RowKit Go.Proofs.YthdoghhmooodjaaW.PrintWords Go.Proofs.YthdoghhmooodjaaW.PrintLast Go.Proofs.YthdoghhmooodjaaW.PrintMore
attribute [local go_sem] max2_int min2_int max_two min_two max_three min_three max_four min_four   -- for this text's walks alone
set_option linter.unusedVariables false
set_option linter.unusedSimpArgs false
mutual
def script_Right.j0 : Nat → Bool → Int → Int → Int → Int → Int → Int → Int → Int → Int → Int → List Int → List Int → List ByteArray → List (S44) → Option (Int)
 | 0, _, _, _, _, _, _, _, _, _, _, _, _, _, _, _ => none
 | k + 1, x34, x402000, x402001, x402002, x402003, x402004, x402005, x402006, x402007, x402008, x402009, x402010, x402011, x402012, x402013 => if x34 = true then (some 6) else (script_Right.l0 k x402013 (x402013.length : Int) 0 x402000 x402001 x402002 x402003 x402004 x402005 x402006 x402007 x402008 x402009 x402010 x402011 x402012 x402013)
def script_Right.l0 : Nat → List (S44) → Int → Int → Int → Int → Int → Int → Int → Int → Int → Int → Int → Int → List Int → List Int → List ByteArray → List (S44) → Option (Int)
 | 0, _, _, _, _, _, _, _, _, _, _, _, _, _, _, _, _, _ => none
 | k + 1, x36, x37, x38, x402000, x402001, x402002, x402003, x402004, x402005, x402006, x402007, x402008, x402009, x402010, x402011, x402012, x402013 => if x38 < x37 then (if 0 ≤ x38 then (if x38 < (x36.length : Int) then ((script_tick.f k x402000 x402001 x402002 x402003 x402004 x402005 x402006 x402007 x402008 x402009 x402010 ((rd_T44 x36 x38).f0) ((rd_T44 x36 x38).f1) ((rd_T44 x36 x38).f2) ((rd_T44 x36 x38).f3) ((rd_T44 x36 x38).f4) ((rd_T44 x36 x38).f5)).bind fun t407 => (if t407 = 0 then (script_Right.l0 k x36 x37 (wrap64 (x38 + 1)) x402000 x402001 x402002 x402003 x402004 x402005 x402006 x402007 x402008 x402009 x402010 x402011 x402012 x402013) else (some t407))) else (none)) else (none)) else (some 0)
end
def script_Right.f (k : Nat) (a0_0 a0_1 a0_2 a0_3 a0_4 a0_5 a0_6 a0_7 a0_8 a0_9 : Int) (l0_10 l0_11 : List Int) (l0_12 : List ByteArray) (l0_13 : List (S44)) : Option (Int) := (bound_Right.f k a0_0 a0_1 a0_2 a0_3 a0_4 a0_5 a0_6 a0_7 a0_8 a0_9 l0_10).bind fun t402 => (if t402 = 0 then ((script_faulty.f k a0_0 a0_1 a0_2 a0_3 a0_4 a0_5 a0_6 a0_7 a0_8 a0_9 l0_10 l0_11 l0_12 l0_13).bind fun t403 => (if t403 = true then (if (l0_12.length : Int) > a0_0 then (script_Right.j0 k true a0_0 a0_1 a0_2 a0_3 a0_4 a0_5 a0_6 a0_7 a0_8 a0_9 l0_10 l0_11 l0_12 l0_13) else (if (l0_13.length : Int) > 2000 then (script_Right.j0 k true a0_0 a0_1 a0_2 a0_3 a0_4 a0_5 a0_6 a0_7 a0_8 a0_9 l0_10 l0_11 l0_12 l0_13) else ((script_every_Right1.f l0_12 ()).bind fun t404 => (script_Right.j0 k (!t404) a0_0 a0_1 a0_2 a0_3 a0_4 a0_5 a0_6 a0_7 a0_8 a0_9 l0_10 l0_11 l0_12 l0_13)))) else (some 7))) else (some t402))
theorem script_Right.mono_l : ∀ k, (∀ y0 y1 y2 y3 y4 y5 y6 y7 y8 y9 y10 y11 y12 y13 y14, LeO (script_Right.j0 k y0 y1 y2 y3 y4 y5 y6 y7 y8 y9 y10 y11 y12 y13 y14) (script_Right.j0 (k + 1) y0 y1 y2 y3 y4 y5 y6 y7 y8 y9 y10 y11 y12 y13 y14)) ∧ (∀ y0 y1 y2 y3 y4 y5 y6 y7 y8 y9 y10 y11 y12 y13 y14 y15 y16, LeO (script_Right.l0 k y0 y1 y2 y3 y4 y5 y6 y7 y8 y9 y10 y11 y12 y13 y14 y15 y16) (script_Right.l0 (k + 1) y0 y1 y2 y3 y4 y5 y6 y7 y8 y9 y10 y11 y12 y13 y14 y15 y16))
 | 0 => ⟨fun _ _ _ _ _ _ _ _ _ _ _ _ _ _ _ r h => by simp [script_Right.j0] at h, fun _ _ _ _ _ _ _ _ _ _ _ _ _ _ _ _ _ r h => by simp [script_Right.l0] at h⟩
 | k + 1 => by
  obtain ⟨ih0, ih1⟩ := script_Right.mono_l k
  refine ⟨?_, ?_⟩
  ·intro y0 y1 y2 y3 y4 y5 y6 y7 y8 y9 y10 y11 y12 y13 y14
   unfold script_Right.j0
   repeat' first
   | (with_reducible exact ih0 _ _ _ _ _ _ _ _ _ _ _ _ _ _ _)
   | (with_reducible exact ih1 _ _ _ _ _ _ _ _ _ _ _ _ _ _ _ _ _)
   | (with_reducible exact bound_Right.mono _ _ _ _ _ _ _ _ _ _ _ _)
   | (with_reducible exact script_faulty.mono _ _ _ _ _ _ _ _ _ _ _ _ _ _ _)
   | (with_reducible exact script_tick.mono _ _ _ _ _ _ _ _ _ _ _ _ _ _ _ _ _ _)
   | (with_reducible exact LeO.refl _)
   | (with_reducible exact LeO.none _)
   | (with_reducible refine LeO.ite ?_ ?_)
   | (with_reducible refine LeO.bind ?_ (fun _ => ?_))
   | exact ih0 _ _ _ _ _ _ _ _ _ _ _ _ _ _ _
   | exact ih1 _ _ _ _ _ _ _ _ _ _ _ _ _ _ _ _ _
   | exact bound_Right.mono _ _ _ _ _ _ _ _ _ _ _ _
   | exact script_faulty.mono _ _ _ _ _ _ _ _ _ _ _ _ _ _ _
   | exact script_tick.mono _ _ _ _ _ _ _ _ _ _ _ _ _ _ _ _ _ _
   | exact LeO.none _
   | refine LeO.ite ?_ ?_
   | refine LeO.bind ?_ (fun _ => ?_)
  ·intro y0 y1 y2 y3 y4 y5 y6 y7 y8 y9 y10 y11 y12 y13 y14 y15 y16
   unfold script_Right.l0
   repeat' first
   | (with_reducible exact ih0 _ _ _ _ _ _ _ _ _ _ _ _ _ _ _)
   | (with_reducible exact ih1 _ _ _ _ _ _ _ _ _ _ _ _ _ _ _ _ _)
   | (with_reducible exact bound_Right.mono _ _ _ _ _ _ _ _ _ _ _ _)
   | (with_reducible exact script_faulty.mono _ _ _ _ _ _ _ _ _ _ _ _ _ _ _)
   | (with_reducible exact script_tick.mono _ _ _ _ _ _ _ _ _ _ _ _ _ _ _ _ _ _)
   | (with_reducible exact LeO.refl _)
   | (with_reducible exact LeO.none _)
   | (with_reducible refine LeO.ite ?_ ?_)
   | (with_reducible refine LeO.bind ?_ (fun _ => ?_))
   | exact ih0 _ _ _ _ _ _ _ _ _ _ _ _ _ _ _
   | exact ih1 _ _ _ _ _ _ _ _ _ _ _ _ _ _ _ _ _
   | exact bound_Right.mono _ _ _ _ _ _ _ _ _ _ _ _
   | exact script_faulty.mono _ _ _ _ _ _ _ _ _ _ _ _ _ _ _
   | exact script_tick.mono _ _ _ _ _ _ _ _ _ _ _ _ _ _ _ _ _ _
   | exact LeO.none _
   | refine LeO.ite ?_ ?_
   | refine LeO.bind ?_ (fun _ => ?_)
theorem script_Right.mono : ∀ a0 a1 a2 a3 a4 a5 a6 a7 a8 a9 a10 a11 a12 a13 k, LeO (script_Right.f k a0 a1 a2 a3 a4 a5 a6 a7 a8 a9 a10 a11 a12 a13) (script_Right.f (k + 1) a0 a1 a2 a3 a4 a5 a6 a7 a8 a9 a10 a11 a12 a13) := by
 intro a0 a1 a2 a3 a4 a5 a6 a7 a8 a9 a10 a11 a12 a13 k
 obtain ⟨ih0, ih1⟩ := script_Right.mono_l k
 unfold script_Right.f
 repeat' first
   | (with_reducible exact ih0 _ _ _ _ _ _ _ _ _ _ _ _ _ _ _)
   | (with_reducible exact ih1 _ _ _ _ _ _ _ _ _ _ _ _ _ _ _ _ _)
   | (with_reducible exact bound_Right.mono _ _ _ _ _ _ _ _ _ _ _ _)
   | (with_reducible exact script_faulty.mono _ _ _ _ _ _ _ _ _ _ _ _ _ _ _)
   | (with_reducible exact script_tick.mono _ _ _ _ _ _ _ _ _ _ _ _ _ _ _ _ _ _)
   | (with_reducible exact LeO.refl _)
   | (with_reducible exact LeO.none _)
   | (with_reducible refine LeO.ite ?_ ?_)
   | (with_reducible refine LeO.bind ?_ (fun _ => ?_))
   | exact ih0 _ _ _ _ _ _ _ _ _ _ _ _ _ _ _
   | exact ih1 _ _ _ _ _ _ _ _ _ _ _ _ _ _ _ _ _
   | exact bound_Right.mono _ _ _ _ _ _ _ _ _ _ _ _
   | exact script_faulty.mono _ _ _ _ _ _ _ _ _ _ _ _ _ _ _
   | exact script_tick.mono _ _ _ _ _ _ _ _ _ _ _ _ _ _ _ _ _ _
   | exact LeO.none _
   | refine LeO.ite ?_ ?_
   | refine LeO.bind ?_ (fun _ => ?_)
set_option maxHeartbeats 8000000 in
set_option maxRecDepth 100000 in
theorem script_Right.calls (k : Nat) (a0_0 a0_1 a0_2 a0_3 a0_4 a0_5 a0_6 a0_7 a0_8 a0_9 : Int) (A0_10 : Option Addr) (c0_10 : Nat) (l0_10 : List Int) (A0_11 : Option Addr) (c0_11 : Nat) (l0_11 : List Int) (A0_12 : Option Addr) (c0_12 : Nat) (l0_12 : List ByteArray) (A0_13 : Option Addr) (c0_13 : Nat) (l0_13 : List (S44)) (r : Int) (w : World) (hr0_10 : Kd.C (Kd.int .i64) w A0_10 l0_10.length l0_10) (hc0_10 : l0_10.length ≤ c0_10) (hr0_11 : Kd.C (Kd.int .i64) w A0_11 l0_11.length l0_11) (hc0_11 : l0_11.length ≤ c0_11) (hr0_12 : Kd.C Kd.string w A0_12 l0_12.length l0_12) (hc0_12 : l0_12.length ≤ c0_12) (hr0_13 : Kd.C k44 w A0_13 l0_13.length l0_13) (hc0_13 : l0_13.length ≤ c0_13) (h : script_Right.f k a0_0 a0_1 a0_2 a0_3 a0_4 a0_5 a0_6 a0_7 a0_8 a0_9 l0_10 l0_11 l0_12 l0_13 = some r) :
  Calls Try.prog 12 #[.agg #[.int .i64 a0_0, .int .i64 a0_1, .int .i64 a0_2, .int .i64 a0_3, .int .i64 a0_4, .int .i64 a0_5, .int .i64 a0_6, .int .i64 a0_7, .int .i64 a0_8, .int .i64 a0_9, .slice A0_10 l0_10.length c0_10, .slice A0_11 l0_11.length c0_11, .slice A0_12 l0_12.length c0_12, .slice A0_13 l0_13.length c0_13]] w fun e w' => e = .returned (.int .i64 r) ∧ Below w.heap.size w w' := by
 have hu24 := Try.underlying24
 have hu44 := Try.underlying44
 have HR0_10 := am_ hr0_10
 have HC0_10 := am_ hc0_10
 clear hr0_10 hc0_10
 have HR0_11 := am_ hr0_11
 have HC0_11 := am_ hc0_11
 clear hr0_11 hc0_11
 have HR0_12 := am_ hr0_12
 have HC0_12 := am_ hc0_12
 clear hr0_12 hc0_12
 have HR0_13 := am_ hr0_13
 have HC0_13 := am_ hc0_13
 clear hr0_13 hc0_13
 have HB := am_ (Below.refl w.heap.size w)
 have H := h
 unfold script_Right.f at H
 clear h
 obtain ⟨t402, A2, H⟩ := bes_ H
 try dsimp only at H
 by_cases c3 : t402 = 0
 ·rw [if_pos c3] at H
  have c3b0 : (t402 == 0) = true := beq_iff_eq.mpr c3
  have c3b1 : (t402 != 0) = false := bne_eq_false_iff_eq.mpr c3
  clear c3
  obtain ⟨t403, A4, H⟩ := bes_ H
  try dsimp only at H
  by_cases c5 : t403 = true
  ·subst c5
   rw [if_pos rfl] at H
   have HC6 := am_ H
   clear H
   go_enter Try.func12, Try.ntmps12
   go_upto_region 6 with (first | ((with_reducible refine gate_load (t := 28) (x := .tmp 1) rfl ?_); refine lrg_ 28 (.tmp 1) gb401 28 (by exact BK401.out) Try.underlying28 ?_) | ((with_reducible refine gate_dst (N := 1) rfl ?_); (try (refine gate_guard (by rfl) ?_; dsimp only)); refine bxe_ 1 28 #[.int .i64 a0_0, .int .i64 a0_1, .int .i64 a0_2, .int .i64 a0_3, .int .i64 a0_4, .int .i64 a0_5, .int .i64 a0_6, .int .i64 a0_7, .int .i64 a0_8, .int .i64 a0_9, .slice A0_10 l0_10.length c0_10, .slice A0_11 l0_11.length c0_11, .slice A0_12 l0_12.length c0_12, .slice A0_13 l0_13.length c0_13] ?_; intro gb401 hg w7 hbox hb; have BK401 := am_ (hbox); have GW401 := gwk_ HB hg; have GE401 := GW401; replace HB := bst_ HB hb; clear hb hbox hg; have hall1_ := cells_14 BK401.out; have hall2_ := frozen_14 BK401.out) | ((with_reducible refine gate_callee (f := 37) rfl ?_); refine gom_ (some 9) Try.func37 (bound_Right.calls k a0_0 a0_1 a0_2 a0_3 a0_4 a0_5 a0_6 a0_7 a0_8 a0_9 _ _ l0_10 _ _ (Kd.C_below HR0_10.out HB.out) HC0_10.out A2.out) ?_; rintro e w9 ⟨rfl, hb⟩; refine ⟨_, rfl, ?_⟩; replace BK401 := bkb_ BK401 hb; replace HB := bst_ HB hb; (try clear hb); have hall3_ := cells_14 BK401.out; have hall4_ := frozen_14 BK401.out) | ((with_reducible refine gate_callee (f := 38) rfl ?_); refine gom_ (some 14) Try.func38 (script_faulty.calls k a0_0 a0_1 a0_2 a0_3 a0_4 a0_5 a0_6 a0_7 a0_8 a0_9 _ _ l0_10 _ _ l0_11 _ _ l0_12 _ _ l0_13 _ _ (Kd.C_below HR0_10.out HB.out) HC0_10.out (Kd.C_below HR0_11.out HB.out) HC0_11.out (Kd.C_below HR0_12.out HB.out) HC0_12.out (Kd.C_below HR0_13.out HB.out) HC0_13.out A4.out) ?_; rintro e w11 ⟨rfl, hb⟩; refine ⟨_, rfl, ?_⟩; replace BK401 := bkb_ BK401 hb; replace HB := bst_ HB hb; (try clear hb)))
   (try simp only [Act.put, zs_])
   go_cut [34] (fun v34 wc => ∃ (kq : Nat) (x34_5 : Bool), v34 = .bool x34_5 ∧ Aside0 (script_Right.j0 kq x34_5 a0_0 a0_1 a0_2 a0_3 a0_4 a0_5 a0_6 a0_7 a0_8 a0_9 l0_10 l0_11 l0_12 l0_13 = some r) ∧ Aside0 (kq ≤ k) ∧ Aside0 (wc.heap[gb401]? = some (.cells #[.int .i64 a0_0, .int .i64 a0_1, .int .i64 a0_2, .int .i64 a0_3, .int .i64 a0_4, .int .i64 a0_5, .int .i64 a0_6, .int .i64 a0_7, .int .i64 a0_8, .int .i64 a0_9, (.slice A0_10 l0_10.length c0_10), (.slice A0_11 l0_11.length c0_11), (.slice A0_12 l0_12.length c0_12), (.slice A0_13 l0_13.length c0_13)] 28 (0, 0))) ∧ Aside0 (Below w.heap.size w wc))
   case first =>
    have H := HC6.out
    clear HC6
    by_cases c12 : (l0_12.length : Int) > a0_0
    ·rw [if_pos c12] at H
     have c12b0 : decide (a0_0 < (l0_12.length : Int)) = true := decide_eq_true c12
     clear c12
     (first | rw [c12b0] | (simp only [i64_w, i32_w]; rw [c12b0]) | skip)
     have H' := am_ H
     clear H
     have hcz13 := cells_14 BK401.out
     have hfz13 := frozen_14 BK401.out
     go_wp2
     go_meet
     case rel => exact ⟨_, (true), (by first | rfl | (simp; done) | (simp [*]; done)), H', ⟨by first | omega | exact Nat.le_refl _⟩, ⟨by (with_reducible repeat (first | apply kn_ | apply kd_ | apply ka_)); exact BK401.out⟩, ⟨by repeat (first | (with_reducible first | exact HB.out | apply ba_ | apply bn_ | apply bd_ | refine bs_ ?_ GE401.out) | exact HB.out)⟩⟩
    ·rw [if_neg c12] at H
     have c12b0 : decide (a0_0 < (l0_12.length : Int)) = false := decide_eq_false c12
     clear c12
     (first | rw [c12b0] | (simp only [i64_w, i32_w]; rw [c12b0]) | skip)
     by_cases c14 : (l0_13.length : Int) > 2000
     ·rw [if_pos c14] at H
      have c14b0 : decide (2000 < (l0_13.length : Int)) = true := decide_eq_true c14
      have c14b1 : decide (2000 < l0_13.length) = true := decide_eq_true (by omega)
      clear c14
      have H' := am_ H
      clear H
      have hcz15 := cells_14 BK401.out
      have hfz15 := frozen_14 BK401.out
      go_wp2
      go_meet
      case rel => exact ⟨_, (true), (by first | rfl | (simp; done) | (simp [*]; done)), H', ⟨by first | omega | exact Nat.le_refl _⟩, ⟨by (with_reducible repeat (first | apply kn_ | apply kd_ | apply ka_)); exact BK401.out⟩, ⟨by repeat (first | (with_reducible first | exact HB.out | apply ba_ | apply bn_ | apply bd_ | refine bs_ ?_ GE401.out) | exact HB.out)⟩⟩
     ·rw [if_neg c14] at H
      have c14b0 : decide (2000 < (l0_13.length : Int)) = false := decide_eq_false c14
      have c14b1 : decide (2000 < l0_13.length) = false := decide_eq_false (by omega)
      clear c14
      obtain ⟨t404, A16, H⟩ := bes_ H
      try dsimp only at H
      have H' := am_ H
      clear H
      have hcz17 := cells_14 BK401.out
      have hfz17 := frozen_14 BK401.out
      go_wp2_with (first | ((with_reducible refine gate_load (t := 28) (x := .tmp 1) rfl ?_); refine lrg_ 28 (.tmp 1) gb401 28 (by exact BK401.out) Try.underlying28 ?_) | (go_at_call 39; (with_reducible refine (script_every_Right1.calls _ _ l0_12 () _ _ (Kd.C_below HR0_12.out HB.out) HC0_12.out A16.out).mono ?_); rintro e w18 ⟨rfl, hb⟩; replace BK401 := bkb_ BK401 hb; replace HB := bst_ HB hb; (try clear hb)))
      go_meet
      case rel => exact ⟨_, (!t404), (by first | rfl | (simp; done) | (simp [*]; done)), H', ⟨by first | omega | exact Nat.le_refl _⟩, ⟨by (with_reducible repeat (first | apply kn_ | apply kd_ | apply ka_)); exact BK401.out⟩, ⟨by repeat (first | (with_reducible first | exact HB.out | apply ba_ | apply bn_ | apply bd_ | refine bs_ ?_ GE401.out) | exact HB.out)⟩⟩
   case rest =>
    clear HC6
    try clear c1
    try clear p2
    try clear c3
    try clear c3b0
    try clear c3b1
    try clear c5
    try clear c12
    try clear c12b0
    try clear c14
    try clear c14b0
    try clear c14b1
    try clear hcz10_0 hcz10_1 hcz10_2 hcz10_3 hcz10_4 hcz10_5 hcz10_6 hcz10_7 hcz10_8 hcz10_9 hcz10_10 hcz10_11 hcz10_12 hcz10_13
    try clear hcz13
    try clear hcz15
    try clear hcz17
    try clear hcz8_0 hcz8_1 hcz8_2 hcz8_3 hcz8_4 hcz8_5 hcz8_6 hcz8_7 hcz8_8 hcz8_9 hcz8_10 hcz8_11 hcz8_12 hcz8_13
    try clear hfz10_0 hfz10_1 hfz10_2 hfz10_3 hfz10_4 hfz10_5 hfz10_6 hfz10_7 hfz10_8 hfz10_9 hfz10_10 hfz10_11 hfz10_12 hfz10_13
    try clear hfz13
    try clear hfz15
    try clear hfz17
    try clear hfz8_0 hfz8_1 hfz8_2 hfz8_3 hfz8_4 hfz8_5 hfz8_6 hfz8_7 hfz8_8 hfz8_9 hfz8_10 hfz8_11 hfz8_12 hfz8_13
    obtain ⟨kq, x34_5, rfl, HA, HJ5, BK401, HB⟩ := hcut
    cases kq with
    | zero => exact absurd HA.out (by simp [script_Right.j0])
    | succ kj5 =>
     have H := HA.out
     clear HA
     simp only [script_Right.j0] at H
     by_cases c19 : x34_5 = true
     ·subst c19
      rw [if_pos rfl] at H
      obtain rfl := Option.some.inj H
      go_wp2
      go_ret
      exact ⟨by first | rfl | (simp [*] <;> rfl), by repeat (first | (with_reducible first | exact HB.out | apply ba_ | apply bn_ | apply bd_ | refine bs_ ?_ GE401.out) | exact HB.out)⟩
     ·replace c19 := Bool.eq_false_iff.mpr c19
      subst c19
      rw [if_neg (show ¬ (false = true) by decide)] at H
      have H' := am_ H
      clear H
      have hcz20 := cells_14 BK401.out
      have hfz20 := frozen_14 BK401.out
      go_wp2
      go_loopg [38] kj5 (fun kq v38 w' => ∃ (x38_2 : Int), v38 = .int .i64 x38_2 ∧ Aside0 (script_Right.l0 kq l0_13 (l0_13.length : Int) x38_2 a0_0 a0_1 a0_2 a0_3 a0_4 a0_5 a0_6 a0_7 a0_8 a0_9 l0_10 l0_11 l0_12 l0_13 = some r) ∧ Aside0 (kq ≤ kj5) ∧ Aside0 (w'.heap[gb401]? = some (.cells #[.int .i64 a0_0, .int .i64 a0_1, .int .i64 a0_2, .int .i64 a0_3, .int .i64 a0_4, .int .i64 a0_5, .int .i64 a0_6, .int .i64 a0_7, .int .i64 a0_8, .int .i64 a0_9, (.slice A0_10 l0_10.length c0_10), (.slice A0_11 l0_11.length c0_11), (.slice A0_12 l0_12.length c0_12), (.slice A0_13 l0_13.length c0_13)] 28 (0, 0))) ∧ Aside0 (Below w.heap.size w w'))
      case atStart => exact ⟨(0), (by first | rfl | (simp; done) | (simp [*]; done)), H', ⟨Nat.le_refl _⟩, ⟨by (with_reducible repeat (first | apply kn_ | apply kd_ | apply ka_)); exact BK401.out⟩, ⟨by repeat (first | (with_reducible first | exact HB.out | apply ba_ | apply bn_ | apply bd_ | refine bs_ ?_ GE401.out) | exact HB.out)⟩⟩
      case round =>
       clear H'
       try clear c1
       try clear p2
       try clear c3
       try clear c3b0
       try clear c3b1
       try clear c5
       try clear c12
       try clear c12b0
       try clear c14
       try clear c14b0
       try clear c14b1
       try clear c19
       try clear hcz10_0 hcz10_1 hcz10_2 hcz10_3 hcz10_4 hcz10_5 hcz10_6 hcz10_7 hcz10_8 hcz10_9 hcz10_10 hcz10_11 hcz10_12 hcz10_13
       try clear hcz13
       try clear hcz15
       try clear hcz17
       try clear hcz20
       try clear hcz8_0 hcz8_1 hcz8_2 hcz8_3 hcz8_4 hcz8_5 hcz8_6 hcz8_7 hcz8_8 hcz8_9 hcz8_10 hcz8_11 hcz8_12 hcz8_13
       try clear hfz10_0 hfz10_1 hfz10_2 hfz10_3 hfz10_4 hfz10_5 hfz10_6 hfz10_7 hfz10_8 hfz10_9 hfz10_10 hfz10_11 hfz10_12 hfz10_13
       try clear hfz13
       try clear hfz15
       try clear hfz17
       try clear hfz20
       try clear hfz8_0 hfz8_1 hfz8_2 hfz8_3 hfz8_4 hfz8_5 hfz8_6 hfz8_7 hfz8_8 hfz8_9 hfz8_10 hfz8_11 hfz8_12 hfz8_13
       try clear p2
       obtain ⟨x38_2, rfl, HA, HK2, BK401, HB⟩ := hrel
       cases gk with
       | zero => exact absurd HA.out (by simp [script_Right.l0])
       | succ k2 =>
        have H := HA.out
        clear HA
        simp only [script_Right.l0] at H
        by_cases c21 : x38_2 < (l0_13.length : Int)
        ·rw [if_pos c21] at H
         have c21b0 : decide (x38_2 < (l0_13.length : Int)) = true := decide_eq_true c21
         clear c21
         by_cases c22 : 0 ≤ x38_2
         ·rw [if_pos c22] at H
          have c22b0 : decide (0 ≤ x38_2) = true := decide_eq_true c22
          clear c22
          by_cases c23 : x38_2 < (l0_13.length : Int)
          ·rw [if_pos c23] at H
           have c23b0 : decide (x38_2 < (l0_13.length : Int)) = true := decide_eq_true c23
           clear c23
           obtain ⟨t407, A24, H⟩ := bes_ H
           try dsimp only at H
           by_cases c25 : t407 = 0
           ·rw [if_pos c25] at H
            have c25b0 : (t407 == 0) = true := beq_iff_eq.mpr c25
            have c25b1 : (t407 != 0) = false := bne_eq_false_iff_eq.mpr c25
            clear c25
            have H' := am_ H
            clear H
            have p405 : 0 ≤ (x38_2 : Int) := of_decide_eq_true (by first | (with_reducible assumption) | assumption)
            have q405 : x38_2 < (l0_13.length : Int) := of_decide_eq_true (by first | (with_reducible assumption) | assumption)
            obtain ⟨ad405, A405_0, c405_0, A405_1, c405_1, A405_2, c405_2, A405_3, c405_3, A405_4, c405_4, A405_5, c405_5, e405, hx405_0, hx405_1, hx405_2, hx405_3, hx405_4, hx405_5, hl405_0, hi405_0, hl405_1, hi405_1, hl405_2, hi405_2, hl405_3, hi405_3, hl405_4, hi405_4, hl405_5, hi405_5⟩ := at_T44 HR0_13.out x38_2 p405 q405
            cases e405
            replace hx405_0 := (HB.out.cell (World.block_lt_of_cell? w _ hx405_0)).trans hx405_0
            replace hx405_1 := (HB.out.cell (World.block_lt_of_cell? w _ hx405_1)).trans hx405_1
            replace hx405_2 := (HB.out.cell (World.block_lt_of_cell? w _ hx405_2)).trans hx405_2
            replace hx405_3 := (HB.out.cell (World.block_lt_of_cell? w _ hx405_3)).trans hx405_3
            replace hx405_4 := (HB.out.cell (World.block_lt_of_cell? w _ hx405_4)).trans hx405_4
            replace hx405_5 := (HB.out.cell (World.block_lt_of_cell? w _ hx405_5)).trans hx405_5
            have HR405_0 := am_ hi405_0
            have HC405_0 := am_ hl405_0
            clear hi405_0 hl405_0
            have HR405_1 := am_ hi405_1
            have HC405_1 := am_ hl405_1
            clear hi405_1 hl405_1
            have HR405_2 := am_ hi405_2
            have HC405_2 := am_ hl405_2
            clear hi405_2 hl405_2
            have HR405_3 := am_ hi405_3
            have HC405_3 := am_ hl405_3
            clear hi405_3 hl405_3
            have HR405_4 := am_ hi405_4
            have HC405_4 := am_ hl405_4
            clear hi405_4 hl405_4
            have HR405_5 := am_ hi405_5
            have HC405_5 := am_ hl405_5
            clear hi405_5 hl405_5
            replace p405 := eq_true p405
            replace q405 := eq_true q405
            go_wp2_with (first | ((with_reducible refine gate_load (t := 28) (x := .tmp 1) rfl ?_); refine lrg_ 28 (.tmp 1) gb401 28 (by exact BK401.out) Try.underlying28 ?_) | ((with_reducible refine gate_dst (N := 5) rfl ?_); (try (refine gate_guard (by rfl) ?_; dsimp only)); refine bxe_ 5 44 #[.slice none 0 0, .slice none 0 0, .slice none 0 0, .slice none 0 0, .slice none 0 0, .slice none 0 0] ?_; intro gb406 hg w26 hbox hb; have BK406 := am_ (hbox); have GW406 := gwk_ HB hg; have GE406 := GW406; replace HB := bst_ HB hb; have NB401_406 := nbk_ BK401 hg; have NB406_401 := nbs_ NB401_406; replace BK401 := bkb_ BK401 hb; clear hb hbox hg) | ((with_reducible refine gate_store (t := 44) (p := 5) rfl ?_); refine row_store_event (t := 44) (p := 5) (v := ?vo_w27) ?hgd ?ho ?hn gb406 #[.slice A405_0 ((rd_T44 l0_13 x38_2).f0).length c405_0, .slice A405_1 ((rd_T44 l0_13 x38_2).f1).length c405_1, .slice A405_2 ((rd_T44 l0_13 x38_2).f2).length c405_2, .slice A405_3 ((rd_T44 l0_13 x38_2).f3).length c405_3, .slice A405_4 ((rd_T44 l0_13 x38_2).f4).length c405_4, .slice A405_5 ((rd_T44 l0_13 x38_2).f5).length c405_5] ?hx ?hy 44 #[.slice none 0 0, .slice none 0 0, .slice none 0 0, .slice none 0 0, .slice none 0 0, .slice none 0 0] ?hg ?hi ?hold ?h1 ?_; (case hgd => rfl); (case ho => rfl); (case hn => rfl); (case hx => rfl); (case hy => rfl); (case hg => exact (by (with_reducible repeat (first | apply kn_ | apply kd_ | apply ka_)); exact BK406.out)); (case hi => kernel_rfl); (case hold => rfl); (case h1 => (first | kernel_rfl | simp [Value.oneCell'])); intro w27 hw; have n0_ : Aside0 (w27.heap[gb401]? = some (.cells #[.int .i64 a0_0, .int .i64 a0_1, .int .i64 a0_2, .int .i64 a0_3, .int .i64 a0_4, .int .i64 a0_5, .int .i64 a0_6, .int .i64 a0_7, .int .i64 a0_8, .int .i64 a0_9, .slice A0_10 l0_10.length c0_10, .slice A0_11 l0_11.length c0_11, .slice A0_12 l0_12.length c0_12, .slice (some ad405) l0_13.length c0_13] 28 (0, 0))) := ⟨(by rw [hw]; exact (by (with_reducible repeat (first | apply kn_ | apply kd_ | apply ka_)); refine blk_farc ?_ NB401_406.out; (with_reducible repeat (first | apply kn_ | apply kd_ | apply ka_)); exact BK401.out))⟩; have n1_ : Aside0 (w27.heap[gb406]? = some (.cells #[.slice A405_0 ((rd_T44 l0_13 x38_2).f0).length c405_0, .slice A405_1 ((rd_T44 l0_13 x38_2).f1).length c405_1, .slice A405_2 ((rd_T44 l0_13 x38_2).f2).length c405_2, .slice A405_3 ((rd_T44 l0_13 x38_2).f3).length c405_3, .slice A405_4 ((rd_T44 l0_13 x38_2).f4).length c405_4, .slice A405_5 ((rd_T44 l0_13 x38_2).f5).length c405_5] 44 (0, 0))) := ⟨(by rw [hw]; exact (by (with_reducible repeat (first | apply kn_ | apply kd_ | apply ka_)); refine setRow_heap _ _ #[.slice none 0 0, .slice none 0 0, .slice none 0 0, .slice none 0 0, .slice none 0 0, .slice none 0 0] _ 44 (0, 0) ?_; (with_reducible repeat (first | apply kn_ | apply kd_ | apply ka_)); exact BK406.out))⟩; have n2_ : Aside0 (Below w.heap.size w w27) := ⟨(by rw [hw]; exact (by repeat (first | (with_reducible first | exact HB.out | refine below_setc ?_ GE406.out | apply below_alloc | apply pw_below_drewN | apply below_drew1 | refine bs_ ?_ GE401.out | refine bs_ ?_ GE406.out) | exact HB.out)))⟩; clear hw; clear BK401; clear BK406; clear HB; have BK401 := n0_; have BK406 := n1_; have HB := n2_; clear n0_ n1_ n2_; have hnb28 := NB401_406.out; have hnc28 := NB406_401.out; have hall5_ := cells_14 BK401.out; have hall6_ := frozen_14 BK401.out; have hcz30 := cells_6 BK406.out; have hfz30 := frozen_6 BK406.out) | ((with_reducible refine gate_callee (f := 41) rfl ?_); refine gom_ (some 45) Try.func41 (script_tick.calls k2 a0_0 a0_1 a0_2 a0_3 a0_4 a0_5 a0_6 a0_7 a0_8 a0_9 _ _ l0_10 _ _ ((rd_T44 l0_13 x38_2).f0) _ _ ((rd_T44 l0_13 x38_2).f1) _ _ ((rd_T44 l0_13 x38_2).f2) _ _ ((rd_T44 l0_13 x38_2).f3) _ _ ((rd_T44 l0_13 x38_2).f4) _ _ ((rd_T44 l0_13 x38_2).f5) _ _ (Kd.C_below HR0_10.out HB.out) HC0_10.out ?side3 ?side4 ?side5 ?side6 ?side7 ?side8 ?side9 ?side10 ?side11 ?side12 ?side13 ?side14 A24.out) ?_; (case side3 => exact (Kd.C_below HR405_0.out HB.out)); (case side4 => exact HC405_0.out); (case side5 => exact (Kd.C_below HR405_1.out HB.out)); (case side6 => exact HC405_1.out); (case side7 => exact (Kd.C_below HR405_2.out HB.out)); (case side8 => exact HC405_2.out); (case side9 => exact (Kd.C_below HR405_3.out HB.out)); (case side10 => exact HC405_3.out); (case side11 => exact (Kd.C_below HR405_4.out HB.out)); (case side12 => exact HC405_4.out); (case side13 => exact (Kd.C_below HR405_5.out HB.out)); (case side14 => exact HC405_5.out); rintro e w31 ⟨rfl, hb⟩; refine ⟨_, rfl, ?_⟩; replace BK401 := bkb_ BK401 hb; replace BK406 := bkb_ BK406 hb; replace HB := bst_ HB hb; (try clear hb)))
            go_roundg k2
            case measure => have := HJ5.out; have := HK2.out; omega
            case rel => exact ⟨(wrap64 (x38_2 + 1)), (by first | rfl | (simp; done) | (simp [*]; done)), H', ⟨by have := HJ5.out; have := HK2.out; omega⟩, ⟨by (with_reducible repeat (first | apply kn_ | apply kd_ | apply ka_)); exact BK401.out⟩, ⟨by repeat (first | (with_reducible first | exact HB.out | apply ba_ | apply bn_ | apply bd_ | refine bs_ ?_ GE401.out | refine bs_ ?_ GE406.out) | exact HB.out)⟩⟩
           ·rw [if_neg c25] at H
            have c25b0 : (t407 == 0) = false := beq_eq_false_iff_ne.mpr c25
            have c25b1 : (t407 != 0) = true := bne_iff_ne.mpr c25
            obtain rfl := Option.some.inj H
            have p405 : 0 ≤ (x38_2 : Int) := of_decide_eq_true (by first | (with_reducible assumption) | assumption)
            have q405 : x38_2 < (l0_13.length : Int) := of_decide_eq_true (by first | (with_reducible assumption) | assumption)
            obtain ⟨ad405, A405_0, c405_0, A405_1, c405_1, A405_2, c405_2, A405_3, c405_3, A405_4, c405_4, A405_5, c405_5, e405, hx405_0, hx405_1, hx405_2, hx405_3, hx405_4, hx405_5, hl405_0, hi405_0, hl405_1, hi405_1, hl405_2, hi405_2, hl405_3, hi405_3, hl405_4, hi405_4, hl405_5, hi405_5⟩ := at_T44 HR0_13.out x38_2 p405 q405
            cases e405
            replace hx405_0 := (HB.out.cell (World.block_lt_of_cell? w _ hx405_0)).trans hx405_0
            replace hx405_1 := (HB.out.cell (World.block_lt_of_cell? w _ hx405_1)).trans hx405_1
            replace hx405_2 := (HB.out.cell (World.block_lt_of_cell? w _ hx405_2)).trans hx405_2
            replace hx405_3 := (HB.out.cell (World.block_lt_of_cell? w _ hx405_3)).trans hx405_3
            replace hx405_4 := (HB.out.cell (World.block_lt_of_cell? w _ hx405_4)).trans hx405_4
            replace hx405_5 := (HB.out.cell (World.block_lt_of_cell? w _ hx405_5)).trans hx405_5
            have HR405_0 := am_ hi405_0
            have HC405_0 := am_ hl405_0
            clear hi405_0 hl405_0
            have HR405_1 := am_ hi405_1
            have HC405_1 := am_ hl405_1
            clear hi405_1 hl405_1
            have HR405_2 := am_ hi405_2
            have HC405_2 := am_ hl405_2
            clear hi405_2 hl405_2
            have HR405_3 := am_ hi405_3
            have HC405_3 := am_ hl405_3
            clear hi405_3 hl405_3
            have HR405_4 := am_ hi405_4
            have HC405_4 := am_ hl405_4
            clear hi405_4 hl405_4
            have HR405_5 := am_ hi405_5
            have HC405_5 := am_ hl405_5
            clear hi405_5 hl405_5
            replace p405 := eq_true p405
            replace q405 := eq_true q405
            go_wp2_with (first | ((with_reducible refine gate_load (t := 28) (x := .tmp 1) rfl ?_); refine lrg_ 28 (.tmp 1) gb401 28 (by exact BK401.out) Try.underlying28 ?_) | ((with_reducible refine gate_dst (N := 5) rfl ?_); (try (refine gate_guard (by rfl) ?_; dsimp only)); refine bxe_ 5 44 #[.slice none 0 0, .slice none 0 0, .slice none 0 0, .slice none 0 0, .slice none 0 0, .slice none 0 0] ?_; intro gb406 hg w32 hbox hb; have BK406 := am_ (hbox); have GW406 := gwk_ HB hg; have GE406 := GW406; replace HB := bst_ HB hb; have NB401_406 := nbk_ BK401 hg; have NB406_401 := nbs_ NB401_406; replace BK401 := bkb_ BK401 hb; clear hb hbox hg) | ((with_reducible refine gate_store (t := 44) (p := 5) rfl ?_); refine row_store_event (t := 44) (p := 5) (v := ?vo_w33) ?hgd ?ho ?hn gb406 #[.slice A405_0 ((rd_T44 l0_13 x38_2).f0).length c405_0, .slice A405_1 ((rd_T44 l0_13 x38_2).f1).length c405_1, .slice A405_2 ((rd_T44 l0_13 x38_2).f2).length c405_2, .slice A405_3 ((rd_T44 l0_13 x38_2).f3).length c405_3, .slice A405_4 ((rd_T44 l0_13 x38_2).f4).length c405_4, .slice A405_5 ((rd_T44 l0_13 x38_2).f5).length c405_5] ?hx ?hy 44 #[.slice none 0 0, .slice none 0 0, .slice none 0 0, .slice none 0 0, .slice none 0 0, .slice none 0 0] ?hg ?hi ?hold ?h1 ?_; (case hgd => rfl); (case ho => rfl); (case hn => rfl); (case hx => rfl); (case hy => rfl); (case hg => exact (by (with_reducible repeat (first | apply kn_ | apply kd_ | apply ka_)); exact BK406.out)); (case hi => kernel_rfl); (case hold => rfl); (case h1 => (first | kernel_rfl | simp [Value.oneCell'])); intro w33 hw; have n0_ : Aside0 (w33.heap[gb401]? = some (.cells #[.int .i64 a0_0, .int .i64 a0_1, .int .i64 a0_2, .int .i64 a0_3, .int .i64 a0_4, .int .i64 a0_5, .int .i64 a0_6, .int .i64 a0_7, .int .i64 a0_8, .int .i64 a0_9, .slice A0_10 l0_10.length c0_10, .slice A0_11 l0_11.length c0_11, .slice A0_12 l0_12.length c0_12, .slice (some ad405) l0_13.length c0_13] 28 (0, 0))) := ⟨(by rw [hw]; exact (by (with_reducible repeat (first | apply kn_ | apply kd_ | apply ka_)); refine blk_farc ?_ NB401_406.out; (with_reducible repeat (first | apply kn_ | apply kd_ | apply ka_)); exact BK401.out))⟩; have n1_ : Aside0 (w33.heap[gb406]? = some (.cells #[.slice A405_0 ((rd_T44 l0_13 x38_2).f0).length c405_0, .slice A405_1 ((rd_T44 l0_13 x38_2).f1).length c405_1, .slice A405_2 ((rd_T44 l0_13 x38_2).f2).length c405_2, .slice A405_3 ((rd_T44 l0_13 x38_2).f3).length c405_3, .slice A405_4 ((rd_T44 l0_13 x38_2).f4).length c405_4, .slice A405_5 ((rd_T44 l0_13 x38_2).f5).length c405_5] 44 (0, 0))) := ⟨(by rw [hw]; exact (by (with_reducible repeat (first | apply kn_ | apply kd_ | apply ka_)); refine setRow_heap _ _ #[.slice none 0 0, .slice none 0 0, .slice none 0 0, .slice none 0 0, .slice none 0 0, .slice none 0 0] _ 44 (0, 0) ?_; (with_reducible repeat (first | apply kn_ | apply kd_ | apply ka_)); exact BK406.out))⟩; have n2_ : Aside0 (Below w.heap.size w w33) := ⟨(by rw [hw]; exact (by repeat (first | (with_reducible first | exact HB.out | refine below_setc ?_ GE406.out | apply below_alloc | apply pw_below_drewN | apply below_drew1 | refine bs_ ?_ GE401.out | refine bs_ ?_ GE406.out) | exact HB.out)))⟩; clear hw; clear BK401; clear BK406; clear HB; have BK401 := n0_; have BK406 := n1_; have HB := n2_; clear n0_ n1_ n2_; have hnb34 := NB401_406.out; have hnc34 := NB406_401.out; have hall7_ := cells_14 BK401.out; have hall8_ := frozen_14 BK401.out; have hcz36 := cells_6 BK406.out; have hfz36 := frozen_6 BK406.out) | ((with_reducible refine gate_callee (f := 41) rfl ?_); refine gom_ (some 45) Try.func41 (script_tick.calls k2 a0_0 a0_1 a0_2 a0_3 a0_4 a0_5 a0_6 a0_7 a0_8 a0_9 _ _ l0_10 _ _ ((rd_T44 l0_13 x38_2).f0) _ _ ((rd_T44 l0_13 x38_2).f1) _ _ ((rd_T44 l0_13 x38_2).f2) _ _ ((rd_T44 l0_13 x38_2).f3) _ _ ((rd_T44 l0_13 x38_2).f4) _ _ ((rd_T44 l0_13 x38_2).f5) _ _ (Kd.C_below HR0_10.out HB.out) HC0_10.out ?side3 ?side4 ?side5 ?side6 ?side7 ?side8 ?side9 ?side10 ?side11 ?side12 ?side13 ?side14 A24.out) ?_; (case side3 => exact (Kd.C_below HR405_0.out HB.out)); (case side4 => exact HC405_0.out); (case side5 => exact (Kd.C_below HR405_1.out HB.out)); (case side6 => exact HC405_1.out); (case side7 => exact (Kd.C_below HR405_2.out HB.out)); (case side8 => exact HC405_2.out); (case side9 => exact (Kd.C_below HR405_3.out HB.out)); (case side10 => exact HC405_3.out); (case side11 => exact (Kd.C_below HR405_4.out HB.out)); (case side12 => exact HC405_4.out); (case side13 => exact (Kd.C_below HR405_5.out HB.out)); (case side14 => exact HC405_5.out); rintro e w37 ⟨rfl, hb⟩; refine ⟨_, rfl, ?_⟩; replace BK401 := bkb_ BK401 hb; replace BK406 := bkb_ BK406 hb; replace HB := bst_ HB hb; (try clear hb)))
            go_ret
            exact ⟨by first | rfl | (simp [*] <;> rfl), by repeat (first | (with_reducible first | exact HB.out | apply ba_ | apply bn_ | apply bd_ | refine bs_ ?_ GE401.out | refine bs_ ?_ GE406.out) | exact HB.out)⟩
          ·rw [if_neg c23] at H
           exact absurd H (by simp)
         ·rw [if_neg c22] at H
          exact absurd H (by simp)
        ·rw [if_neg c21] at H
         have c21b0 : decide (x38_2 < (l0_13.length : Int)) = false := decide_eq_false c21
         clear c21
         obtain rfl := Option.some.inj H
         go_wp2
         go_ret
         exact ⟨by first | rfl | (simp [*] <;> rfl), by repeat (first | (with_reducible first | exact HB.out | apply ba_ | apply bn_ | apply bd_ | refine bs_ ?_ GE401.out) | exact HB.out)⟩
  ·replace c5 := Bool.eq_false_iff.mpr c5
   subst c5
   rw [if_neg (show ¬ (false = true) by decide)] at H
   obtain rfl := Option.some.inj H
   go_enter Try.func12, Try.ntmps12
   go_wp2_with (first | ((with_reducible refine gate_load (t := 28) (x := .tmp 1) rfl ?_); refine lrg_ 28 (.tmp 1) gb401 28 (by exact BK401.out) Try.underlying28 ?_) | ((with_reducible refine gate_dst (N := 1) rfl ?_); (try (refine gate_guard (by rfl) ?_; dsimp only)); refine bxe_ 1 28 #[.int .i64 a0_0, .int .i64 a0_1, .int .i64 a0_2, .int .i64 a0_3, .int .i64 a0_4, .int .i64 a0_5, .int .i64 a0_6, .int .i64 a0_7, .int .i64 a0_8, .int .i64 a0_9, .slice A0_10 l0_10.length c0_10, .slice A0_11 l0_11.length c0_11, .slice A0_12 l0_12.length c0_12, .slice A0_13 l0_13.length c0_13] ?_; intro gb401 hg w38 hbox hb; have BK401 := am_ (hbox); have GW401 := gwk_ HB hg; have GE401 := GW401; replace HB := bst_ HB hb; clear hb hbox hg; have hall9_ := cells_14 BK401.out; have hall10_ := frozen_14 BK401.out) | ((with_reducible refine gate_callee (f := 37) rfl ?_); refine gom_ (some 9) Try.func37 (bound_Right.calls k a0_0 a0_1 a0_2 a0_3 a0_4 a0_5 a0_6 a0_7 a0_8 a0_9 _ _ l0_10 _ _ (Kd.C_below HR0_10.out HB.out) HC0_10.out A2.out) ?_; rintro e w40 ⟨rfl, hb⟩; refine ⟨_, rfl, ?_⟩; replace BK401 := bkb_ BK401 hb; replace HB := bst_ HB hb; (try clear hb); have hall11_ := cells_14 BK401.out; have hall12_ := frozen_14 BK401.out) | ((with_reducible refine gate_callee (f := 38) rfl ?_); refine gom_ (some 14) Try.func38 (script_faulty.calls k a0_0 a0_1 a0_2 a0_3 a0_4 a0_5 a0_6 a0_7 a0_8 a0_9 _ _ l0_10 _ _ l0_11 _ _ l0_12 _ _ l0_13 _ _ (Kd.C_below HR0_10.out HB.out) HC0_10.out (Kd.C_below HR0_11.out HB.out) HC0_11.out (Kd.C_below HR0_12.out HB.out) HC0_12.out (Kd.C_below HR0_13.out HB.out) HC0_13.out A4.out) ?_; rintro e w42 ⟨rfl, hb⟩; refine ⟨_, rfl, ?_⟩; replace BK401 := bkb_ BK401 hb; replace HB := bst_ HB hb; (try clear hb)))
   go_ret
   exact ⟨by first | rfl | (simp [*] <;> rfl), by repeat (first | (with_reducible first | exact HB.out | apply ba_ | apply bn_ | apply bd_ | refine bs_ ?_ GE401.out) | exact HB.out)⟩
 ·rw [if_neg c3] at H
  have c3b0 : (t402 == 0) = false := beq_eq_false_iff_ne.mpr c3
  have c3b1 : (t402 != 0) = true := bne_iff_ne.mpr c3
  obtain rfl := Option.some.inj H
  go_enter Try.func12, Try.ntmps12
  go_wp2_with (first | ((with_reducible refine gate_load (t := 28) (x := .tmp 1) rfl ?_); refine lrg_ 28 (.tmp 1) gb401 28 (by exact BK401.out) Try.underlying28 ?_) | ((with_reducible refine gate_dst (N := 1) rfl ?_); (try (refine gate_guard (by rfl) ?_; dsimp only)); refine bxe_ 1 28 #[.int .i64 a0_0, .int .i64 a0_1, .int .i64 a0_2, .int .i64 a0_3, .int .i64 a0_4, .int .i64 a0_5, .int .i64 a0_6, .int .i64 a0_7, .int .i64 a0_8, .int .i64 a0_9, .slice A0_10 l0_10.length c0_10, .slice A0_11 l0_11.length c0_11, .slice A0_12 l0_12.length c0_12, .slice A0_13 l0_13.length c0_13] ?_; intro gb401 hg w43 hbox hb; have BK401 := am_ (hbox); have GW401 := gwk_ HB hg; have GE401 := GW401; replace HB := bst_ HB hb; clear hb hbox hg; have hall13_ := cells_14 BK401.out; have hall14_ := frozen_14 BK401.out) | ((with_reducible refine gate_callee (f := 37) rfl ?_); refine gom_ (some 9) Try.func37 (bound_Right.calls k a0_0 a0_1 a0_2 a0_3 a0_4 a0_5 a0_6 a0_7 a0_8 a0_9 _ _ l0_10 _ _ (Kd.C_below HR0_10.out HB.out) HC0_10.out A2.out) ?_; rintro e w45 ⟨rfl, hb⟩; refine ⟨_, rfl, ?_⟩; replace BK401 := bkb_ BK401 hb; replace HB := bst_ HB hb; (try clear hb)))
  go_ret
  exact ⟨by first | rfl | (simp [*] <;> rfl), by repeat (first | (with_reducible first | exact HB.out | apply ba_ | apply bn_ | apply bd_ | refine bs_ ?_ GE401.out) | exact HB.out)⟩
def script_at.f (a0_0 a0_1 a0_2 a0_3 a0_4 a0_5 a0_6 a0_7 a0_8 a0_9 : Int) (l0_10 l0_11 : List Int) (l0_12 : List ByteArray) (l0_13 : List (S44)) (a1 : Int) : Option (List Int × List Int × (List (S74)) × (List (S48)) × (List (S74)) × (List (S81)) × Bool) := if a1 < 0 then (some (([] : List Int), ([] : List Int), ([] : List (S74)), ([] : List (S48)), ([] : List (S74)), ([] : List (S81)), false)) else (if a1 ≥ (l0_13.length : Int) then (some (([] : List Int), ([] : List Int), ([] : List (S74)), ([] : List (S48)), ([] : List (S74)), ([] : List (S81)), false)) else (if 0 ≤ a1 then (if a1 < (l0_13.length : Int) then (some ((rd_T44 l0_13 a1).f0, (rd_T44 l0_13 a1).f1, (rd_T44 l0_13 a1).f2, (rd_T44 l0_13 a1).f3, (rd_T44 l0_13 a1).f4, (rd_T44 l0_13 a1).f5, true)) else (none)) else (none)))
set_option maxHeartbeats 8000000 in
set_option maxRecDepth 100000 in
theorem script_at.calls (a0_0 a0_1 a0_2 a0_3 a0_4 a0_5 a0_6 a0_7 a0_8 a0_9 : Int) (A0_10 : Option Addr) (c0_10 : Nat) (l0_10 : List Int) (A0_11 : Option Addr) (c0_11 : Nat) (l0_11 : List Int) (A0_12 : Option Addr) (c0_12 : Nat) (l0_12 : List ByteArray) (P0_13_ : Nat → Prop) (A0_13 : Option Addr) (c0_13 : Nat) (l0_13 : List (S44)) (a1 : Int) (r1 r2 : List Int) (r3 : List (S74)) (r4 : List (S48)) (r5 : List (S74)) (r6 : List (S81)) (r7 : Bool) (w : World) (hr0_10 : Kd.C (Kd.int .i64) w A0_10 l0_10.length l0_10) (hc0_10 : l0_10.length ≤ c0_10) (hr0_11 : Kd.C (Kd.int .i64) w A0_11 l0_11.length l0_11) (hc0_11 : l0_11.length ≤ c0_11) (hr0_12 : Kd.C Kd.string w A0_12 l0_12.length l0_12) (hc0_12 : l0_12.length ≤ c0_12) (hs0_13 : Kd.V k44 44 w w.heap.size (fun k_ => P0_13_ k_) (.slice A0_13 l0_13.length c0_13) l0_13) (h : script_at.f a0_0 a0_1 a0_2 a0_3 a0_4 a0_5 a0_6 a0_7 a0_8 a0_9 l0_10 l0_11 l0_12 l0_13 a1 = some (r1, r2, r3, r4, r5, r6, r7)) :
  Calls Try.prog 46 #[.agg #[.int .i64 a0_0, .int .i64 a0_1, .int .i64 a0_2, .int .i64 a0_3, .int .i64 a0_4, .int .i64 a0_5, .int .i64 a0_6, .int .i64 a0_7, .int .i64 a0_8, .int .i64 a0_9, .slice A0_10 l0_10.length c0_10, .slice A0_11 l0_11.length c0_11, .slice A0_12 l0_12.length c0_12, .slice A0_13 l0_13.length c0_13], .int .i64 a1] w fun e w' => ∃ v0_ v1_ v2_ v3_ v4_ v5_ : Value, e = .returned (.tuple #[.agg #[v0_, v1_, v2_, v3_, v4_, v5_], .bool r7]) ∧ Kd.V (Kd.int .i64) 3 w' w.heap.size (fun k_ => (P0_13_ k_ ∨ w.heap.size ≤ k_)) v0_ r1 ∧ Kd.V (Kd.int .i64) 3 w' w.heap.size (fun k_ => (P0_13_ k_ ∨ w.heap.size ≤ k_)) v1_ r2 ∧ Kd.V k74 74 w' w.heap.size (fun k_ => (P0_13_ k_ ∨ w.heap.size ≤ k_)) v2_ r3 ∧ Kd.V k48 48 w' w.heap.size (fun k_ => (P0_13_ k_ ∨ w.heap.size ≤ k_)) v3_ r4 ∧ Kd.V k74 74 w' w.heap.size (fun k_ => (P0_13_ k_ ∨ w.heap.size ≤ k_)) v4_ r5 ∧ Kd.V k81 81 w' w.heap.size (fun k_ => (P0_13_ k_ ∨ w.heap.size ≤ k_)) v5_ r6 ∧ Below w.heap.size w w' := by
 have hu44 := Try.underlying44
 have HR0_10 := am_ hr0_10
 have HC0_10 := am_ hc0_10
 clear hr0_10 hc0_10
 have HR0_11 := am_ hr0_11
 have HC0_11 := am_ hc0_11
 clear hr0_11 hc0_11
 have HR0_12 := am_ hr0_12
 have HC0_12 := am_ hc0_12
 clear hr0_12 hc0_12
 have HO0_13 := am_ (show Kd.V k44 44 w w.heap.size (fun k_ => (P0_13_ k_ ∨ w.heap.size ≤ k_)) (.slice A0_13 l0_13.length c0_13) l0_13 from Kd.V_mono hs0_13 (fun k_ hk => .inl hk))
 have HB := am_ (Below.refl w.heap.size w)
 have H := h
 unfold script_at.f at H
 clear h
 by_cases c3 : a1 < 0
 ·rw [if_pos c3] at H
  have c3b0 : decide (a1 < 0) = true := decide_eq_true c3
  clear c3
  simp only [Option.some.injEq, Prod.mk.injEq] at H
  obtain ⟨rfl, rfl, rfl, rfl, rfl, rfl, rfl⟩ := H
  go_enter Try.func46, Try.ntmps46
  go_wp2_with (first | ((with_reducible refine gate_load (t := 28) (x := .tmp 2) rfl ?_); refine lrg_ 28 (.tmp 2) gb401 28 (by exact BK401.out) Try.underlying28 ?_) | ((with_reducible refine gate_dst (N := 2) rfl ?_); (try (refine gate_guard (by rfl) ?_; dsimp only)); refine bxe_ 2 28 #[.int .i64 a0_0, .int .i64 a0_1, .int .i64 a0_2, .int .i64 a0_3, .int .i64 a0_4, .int .i64 a0_5, .int .i64 a0_6, .int .i64 a0_7, .int .i64 a0_8, .int .i64 a0_9, .slice A0_10 l0_10.length c0_10, .slice A0_11 l0_11.length c0_11, .slice A0_12 l0_12.length c0_12, .slice A0_13 l0_13.length c0_13] ?_; intro gb401 hg w4 hbox hb; replace HO0_13 := am_ (Kd.V_below (Kd.V_elderB (by (with_reducible repeat (first | apply Kd.V_alloc | apply Kd.V_drewN | apply Kd.V_drew)); exact HO0_13.out) gb401 (Nat.le_of_eq hg.symm)) hb); have BK401 := am_ (hbox); have GW401 := gwk_ HB hg; have GE401 := GW401; replace HB := bst_ HB hb; clear hb hbox hg) | ((with_reducible refine gate_dst (N := 4) rfl ?_); (try (refine gate_guard (by rfl) ?_; dsimp only)); refine bxe_ 4 44 #[.slice none 0 0, .slice none 0 0, .slice none 0 0, .slice none 0 0, .slice none 0 0, .slice none 0 0] ?_; intro gb402 hg w5 hbox hb; replace HO0_13 := am_ (Kd.V_below (Kd.V_elderB (by (with_reducible repeat (first | apply Kd.V_alloc | apply Kd.V_drewN | apply Kd.V_drew)); exact HO0_13.out) gb402 (Nat.le_of_eq hg.symm)) hb); have BK402 := am_ (hbox); have GW402 := gwk_ HB hg; have GE402 := GW402; replace HB := bst_ HB hb; have NB401_402 := nbk_ BK401 hg; have NB402_401 := nbs_ NB401_402; replace BK401 := bkb_ BK401 hb; clear hb hbox hg) | ((with_reducible refine gate_store (t := 44) (p := 4) rfl ?_); refine row_store_event (t := 44) (p := 4) (v := ?vo_w6) ?hgd ?ho ?hn gb402 #[.slice none 0 0, .slice none 0 0, .slice none 0 0, .slice none 0 0, .slice none 0 0, .slice none 0 0] ?hx ?hy 44 #[.slice none 0 0, .slice none 0 0, .slice none 0 0, .slice none 0 0, .slice none 0 0, .slice none 0 0] ?hg ?hi ?hold ?h1 ?_; (case hgd => rfl); (case ho => rfl); (case hn => rfl); (case hx => rfl); (case hy => rfl); (case hg => exact (by (with_reducible repeat (first | apply kn_ | apply kd_ | apply ka_)); exact BK402.out)); (case hi => kernel_rfl); (case hold => rfl); (case h1 => (first | kernel_rfl | simp [Value.oneCell'])); intro w6 hw; have n0_ : Aside0 (Kd.V k44 44 w6 w.heap.size (fun k_ => (P0_13_ k_ ∨ w.heap.size ≤ k_) ∧ k_ ≠ gb401 ∧ k_ ≠ gb402) (.slice A0_13 l0_13.length c0_13) l0_13) := ⟨(by rw [hw]; exact (by (with_reducible repeat (first | apply Kd.V_alloc | apply Kd.V_drewN | apply Kd.V_drew)); exact Kd.V_mono (Kd.V_farc (Kd.V_mono HO0_13.out (fun k_ hk => (⟨hk, hk.2⟩ : _ ∧ k_ ≠ gb402))) (fun _ hk => hk.2)) (fun _ hk => ⟨hk.1.1.1, ⟨hk.1.1.2, hk.1.2⟩⟩)))⟩; have n1_ : Aside0 (w6.heap[gb401]? = some (.cells #[.int .i64 a0_0, .int .i64 a0_1, .int .i64 a0_2, .int .i64 a0_3, .int .i64 a0_4, .int .i64 a0_5, .int .i64 a0_6, .int .i64 a0_7, .int .i64 a0_8, .int .i64 a0_9, .slice A0_10 l0_10.length c0_10, .slice A0_11 l0_11.length c0_11, .slice A0_12 l0_12.length c0_12, .slice A0_13 l0_13.length c0_13] 28 (0, 0))) := ⟨(by rw [hw]; exact (by (with_reducible repeat (first | apply kn_ | apply kd_ | apply ka_)); refine blk_farc ?_ NB401_402.out; (with_reducible repeat (first | apply kn_ | apply kd_ | apply ka_)); exact BK401.out))⟩; have n2_ : Aside0 (w6.heap[gb402]? = some (.cells #[.slice none 0 0, .slice none 0 0, .slice none 0 0, .slice none 0 0, .slice none 0 0, .slice none 0 0] 44 (0, 0))) := ⟨(by rw [hw]; exact (by (with_reducible repeat (first | apply kn_ | apply kd_ | apply ka_)); refine setRow_heap _ _ #[.slice none 0 0, .slice none 0 0, .slice none 0 0, .slice none 0 0, .slice none 0 0, .slice none 0 0] _ 44 (0, 0) ?_; (with_reducible repeat (first | apply kn_ | apply kd_ | apply ka_)); exact BK402.out))⟩; have n3_ : Aside0 (Below w.heap.size w w6) := ⟨(by rw [hw]; exact (by repeat (first | (with_reducible first | exact HB.out | refine below_setc ?_ GE402.out | apply below_alloc | apply pw_below_drewN | apply below_drew1 | refine bs_ ?_ GE401.out | refine bs_ ?_ GE402.out) | exact HB.out)))⟩; clear hw; clear HO0_13; clear BK401; clear BK402; clear HB; have HO0_13 := n0_; have BK401 := n1_; have BK402 := n2_; have HB := n3_; clear n0_ n1_ n2_ n3_))
  refine bodyPost_ret (results_ct rfl _ _ gb402 44 #[.slice none 0 0, .slice none 0 0, .slice none 0 0, .slice none 0 0, .slice none 0 0, .slice none 0 0] (0, 0) _ rfl (by (with_reducible repeat (first | apply kn_ | apply kd_ | apply ka_)); exact BK402.out) Try.underlying44 rfl (by kernel_rfl)) rfl ?_
  exact ⟨_, _, _, _, _, _, by first | rfl | (simp [*] <;> rfl), Kd.V_nil _ _ _ _ _, Kd.V_nil _ _ _ _ _, Kd.V_nil _ _ _ _ _, Kd.V_nil _ _ _ _ _, Kd.V_nil _ _ _ _ _, Kd.V_nil _ _ _ _ _, by repeat (first | (with_reducible first | exact HB.out | apply ba_ | apply bn_ | apply bd_ | refine bs_ ?_ GE401.out | refine bs_ ?_ GE402.out) | exact HB.out)⟩
 ·rw [if_neg c3] at H
  have c3b0 : decide (a1 < 0) = false := decide_eq_false c3
  clear c3
  by_cases c7 : a1 ≥ (l0_13.length : Int)
  ·rw [if_pos c7] at H
   have c7b0 : decide ((l0_13.length : Int) ≤ a1) = true := decide_eq_true c7
   clear c7
   simp only [Option.some.injEq, Prod.mk.injEq] at H
   obtain ⟨rfl, rfl, rfl, rfl, rfl, rfl, rfl⟩ := H
   go_enter Try.func46, Try.ntmps46
   go_wp2_with (first | ((with_reducible refine gate_load (t := 28) (x := .tmp 2) rfl ?_); refine lrg_ 28 (.tmp 2) gb401 28 (by exact BK401.out) Try.underlying28 ?_) | ((with_reducible refine gate_dst (N := 2) rfl ?_); (try (refine gate_guard (by rfl) ?_; dsimp only)); refine bxe_ 2 28 #[.int .i64 a0_0, .int .i64 a0_1, .int .i64 a0_2, .int .i64 a0_3, .int .i64 a0_4, .int .i64 a0_5, .int .i64 a0_6, .int .i64 a0_7, .int .i64 a0_8, .int .i64 a0_9, .slice A0_10 l0_10.length c0_10, .slice A0_11 l0_11.length c0_11, .slice A0_12 l0_12.length c0_12, .slice A0_13 l0_13.length c0_13] ?_; intro gb401 hg w8 hbox hb; replace HO0_13 := am_ (Kd.V_below (Kd.V_elderB (by (with_reducible repeat (first | apply Kd.V_alloc | apply Kd.V_drewN | apply Kd.V_drew)); exact HO0_13.out) gb401 (Nat.le_of_eq hg.symm)) hb); have BK401 := am_ (hbox); have GW401 := gwk_ HB hg; have GE401 := GW401; replace HB := bst_ HB hb; clear hb hbox hg) | ((with_reducible refine gate_dst (N := 4) rfl ?_); (try (refine gate_guard (by rfl) ?_; dsimp only)); refine bxe_ 4 44 #[.slice none 0 0, .slice none 0 0, .slice none 0 0, .slice none 0 0, .slice none 0 0, .slice none 0 0] ?_; intro gb402 hg w9 hbox hb; replace HO0_13 := am_ (Kd.V_below (Kd.V_elderB (by (with_reducible repeat (first | apply Kd.V_alloc | apply Kd.V_drewN | apply Kd.V_drew)); exact HO0_13.out) gb402 (Nat.le_of_eq hg.symm)) hb); have BK402 := am_ (hbox); have GW402 := gwk_ HB hg; have GE402 := GW402; replace HB := bst_ HB hb; have NB401_402 := nbk_ BK401 hg; have NB402_401 := nbs_ NB401_402; replace BK401 := bkb_ BK401 hb; clear hb hbox hg; have hnb10 := NB401_402.out; have hnc10 := NB402_401.out; have hall1_ := cells_14 BK401.out; have hall2_ := frozen_14 BK401.out) | ((with_reducible refine gate_store (t := 44) (p := 4) rfl ?_); refine row_store_event (t := 44) (p := 4) (v := ?vo_w12) ?hgd ?ho ?hn gb402 #[.slice none 0 0, .slice none 0 0, .slice none 0 0, .slice none 0 0, .slice none 0 0, .slice none 0 0] ?hx ?hy 44 #[.slice none 0 0, .slice none 0 0, .slice none 0 0, .slice none 0 0, .slice none 0 0, .slice none 0 0] ?hg ?hi ?hold ?h1 ?_; (case hgd => rfl); (case ho => rfl); (case hn => rfl); (case hx => rfl); (case hy => rfl); (case hg => exact (by (with_reducible repeat (first | apply kn_ | apply kd_ | apply ka_)); exact BK402.out)); (case hi => kernel_rfl); (case hold => rfl); (case h1 => (first | kernel_rfl | simp [Value.oneCell'])); intro w12 hw; have n0_ : Aside0 (Kd.V k44 44 w12 w.heap.size (fun k_ => (P0_13_ k_ ∨ w.heap.size ≤ k_) ∧ k_ ≠ gb401 ∧ k_ ≠ gb402) (.slice A0_13 l0_13.length c0_13) l0_13) := ⟨(by rw [hw]; exact (by (with_reducible repeat (first | apply Kd.V_alloc | apply Kd.V_drewN | apply Kd.V_drew)); exact Kd.V_mono (Kd.V_farc (Kd.V_mono HO0_13.out (fun k_ hk => (⟨hk, hk.2⟩ : _ ∧ k_ ≠ gb402))) (fun _ hk => hk.2)) (fun _ hk => ⟨hk.1.1.1, ⟨hk.1.1.2, hk.1.2⟩⟩)))⟩; have n1_ : Aside0 (w12.heap[gb401]? = some (.cells #[.int .i64 a0_0, .int .i64 a0_1, .int .i64 a0_2, .int .i64 a0_3, .int .i64 a0_4, .int .i64 a0_5, .int .i64 a0_6, .int .i64 a0_7, .int .i64 a0_8, .int .i64 a0_9, .slice A0_10 l0_10.length c0_10, .slice A0_11 l0_11.length c0_11, .slice A0_12 l0_12.length c0_12, .slice A0_13 l0_13.length c0_13] 28 (0, 0))) := ⟨(by rw [hw]; exact (by (with_reducible repeat (first | apply kn_ | apply kd_ | apply ka_)); refine blk_farc ?_ NB401_402.out; (with_reducible repeat (first | apply kn_ | apply kd_ | apply ka_)); exact BK401.out))⟩; have n2_ : Aside0 (w12.heap[gb402]? = some (.cells #[.slice none 0 0, .slice none 0 0, .slice none 0 0, .slice none 0 0, .slice none 0 0, .slice none 0 0] 44 (0, 0))) := ⟨(by rw [hw]; exact (by (with_reducible repeat (first | apply kn_ | apply kd_ | apply ka_)); refine setRow_heap _ _ #[.slice none 0 0, .slice none 0 0, .slice none 0 0, .slice none 0 0, .slice none 0 0, .slice none 0 0] _ 44 (0, 0) ?_; (with_reducible repeat (first | apply kn_ | apply kd_ | apply ka_)); exact BK402.out))⟩; have n3_ : Aside0 (Below w.heap.size w w12) := ⟨(by rw [hw]; exact (by repeat (first | (with_reducible first | exact HB.out | refine below_setc ?_ GE402.out | apply below_alloc | apply pw_below_drewN | apply below_drew1 | refine bs_ ?_ GE401.out | refine bs_ ?_ GE402.out) | exact HB.out)))⟩; clear hw; clear HO0_13; clear BK401; clear BK402; clear HB; have HO0_13 := n0_; have BK401 := n1_; have BK402 := n2_; have HB := n3_; clear n0_ n1_ n2_ n3_))
   refine bodyPost_ret (results_ct rfl _ _ gb402 44 #[.slice none 0 0, .slice none 0 0, .slice none 0 0, .slice none 0 0, .slice none 0 0, .slice none 0 0] (0, 0) _ rfl (by (with_reducible repeat (first | apply kn_ | apply kd_ | apply ka_)); exact BK402.out) Try.underlying44 rfl (by kernel_rfl)) rfl ?_
   exact ⟨_, _, _, _, _, _, by first | rfl | (simp [*] <;> rfl), Kd.V_nil _ _ _ _ _, Kd.V_nil _ _ _ _ _, Kd.V_nil _ _ _ _ _, Kd.V_nil _ _ _ _ _, Kd.V_nil _ _ _ _ _, Kd.V_nil _ _ _ _ _, by repeat (first | (with_reducible first | exact HB.out | apply ba_ | apply bn_ | apply bd_ | refine bs_ ?_ GE401.out | refine bs_ ?_ GE402.out) | exact HB.out)⟩
  ·rw [if_neg c7] at H
   have c7b0 : decide ((l0_13.length : Int) ≤ a1) = false := decide_eq_false c7
   clear c7
   by_cases c13 : 0 ≤ a1
   ·rw [if_pos c13] at H
    have c13b0 : decide (0 ≤ a1) = true := decide_eq_true c13
    clear c13
    by_cases c14 : a1 < (l0_13.length : Int)
    ·rw [if_pos c14] at H
     have c14b0 : decide (a1 < (l0_13.length : Int)) = true := decide_eq_true c14
     clear c14
     simp only [Option.some.injEq, Prod.mk.injEq] at H
     obtain ⟨rfl, rfl, rfl, rfl, rfl, rfl, rfl⟩ := H
     go_enter Try.func46, Try.ntmps46
     go_wp2_with (first | ((with_reducible refine gate_load (t := 28) (x := .tmp 2) rfl ?_); refine lrg_ 28 (.tmp 2) gb401 28 (by exact BK401.out) Try.underlying28 ?_) | ((with_reducible refine gate_dst (N := 2) rfl ?_); (try (refine gate_guard (by rfl) ?_; dsimp only)); refine bxe_ 2 28 #[.int .i64 a0_0, .int .i64 a0_1, .int .i64 a0_2, .int .i64 a0_3, .int .i64 a0_4, .int .i64 a0_5, .int .i64 a0_6, .int .i64 a0_7, .int .i64 a0_8, .int .i64 a0_9, .slice A0_10 l0_10.length c0_10, .slice A0_11 l0_11.length c0_11, .slice A0_12 l0_12.length c0_12, .slice A0_13 l0_13.length c0_13] ?_; intro gb401 hg w15 hbox hb; replace HO0_13 := am_ (Kd.V_below (Kd.V_elderB (by (with_reducible repeat (first | apply Kd.V_alloc | apply Kd.V_drewN | apply Kd.V_drew)); exact HO0_13.out) gb401 (Nat.le_of_eq hg.symm)) hb); have BK401 := am_ (hbox); have GW401 := gwk_ HB hg; have GE401 := GW401; replace HB := bst_ HB hb; clear hb hbox hg) | ((with_reducible refine gate_dst (N := 4) rfl ?_); (try (refine gate_guard (by rfl) ?_; dsimp only)); refine bxe_ 4 44 #[.slice none 0 0, .slice none 0 0, .slice none 0 0, .slice none 0 0, .slice none 0 0, .slice none 0 0] ?_; intro gb402 hg w16 hbox hb; replace HO0_13 := am_ (Kd.V_below (Kd.V_elderB (by (with_reducible repeat (first | apply Kd.V_alloc | apply Kd.V_drewN | apply Kd.V_drew)); exact HO0_13.out) gb402 (Nat.le_of_eq hg.symm)) hb); have BK402 := am_ (hbox); have GW402 := gwk_ HB hg; have GE402 := GW402; replace HB := bst_ HB hb; have NB401_402 := nbk_ BK401 hg; have NB402_401 := nbs_ NB401_402; replace BK401 := bkb_ BK401 hb; clear hb hbox hg; have hnb17 := NB401_402.out; have hnc17 := NB402_401.out; have hall3_ := cells_14 BK401.out; have hall4_ := frozen_14 BK401.out; have p403 : 0 ≤ (a1 : Int) := of_decide_eq_true (by first | (with_reducible assumption) | assumption); have q403 : a1 < (l0_13.length : Int) := of_decide_eq_true (by first | (with_reducible assumption) | assumption); obtain ⟨ad403, A403_0, c403_0, A403_1, c403_1, A403_2, c403_2, A403_3, c403_3, A403_4, c403_4, A403_5, c403_5, e403, hx403_0, hx403_1, hx403_2, hx403_3, hx403_4, hx403_5, hl403_0, hi403_0, hl403_1, hi403_1, hl403_2, hi403_2, hl403_3, hi403_3, hl403_4, hi403_4, hl403_5, hi403_5⟩ := at_T44 (Kd.V_reads' HO0_13.out).2.2 a1 p403 q403; cases e403; obtain ⟨ce403, hce403, hMe403, hcc403⟩ := Kd.V_get HO0_13.out z44 a1 p403 (by first | exact q403 | exact of_decide_eq_true (by first | (with_reducible assumption) | assumption) | (have e_ := (Kd.V_reads' HO0_13.out).1; omega)); obtain ⟨ua403_0, uc403_0, ua403_1, uc403_1, ua403_2, uc403_2, ua403_3, uc403_3, ua403_4, uc403_4, ua403_5, uc403_5, rfl, ul403_0, ge403_0, ul403_1, ge403_1, ul403_2, ge403_2, ul403_3, ge403_3, ul403_4, ge403_4, ul403_5, ge403_5⟩ := k44_openF hMe403; have hv403_0 := hcc403 0 _ rfl; rw [Nat.add_zero] at hv403_0; replace hv403_0 := Option.some.inj (hv403_0.symm.trans hx403_0); injection hv403_0 with hva_ hvn_ hvc_; rw [hva_] at ge403_0; rw [hvc_] at ul403_0; have HL403_0 := am_ (show Kd.V (Kd.int .i64) 3 _ w.heap.size _ _ ((rd_T44 l0_13 a1).f0) from Kd.V_mk ul403_0 ge403_0); clear hva_ hvn_ hvc_ ge403_0 ul403_0; have hv403_1 := hcc403 1 _ rfl; rw [add_field _ _ 1 (by omega)] at hv403_1; replace hv403_1 := Option.some.inj (hv403_1.symm.trans hx403_1); injection hv403_1 with hva_ hvn_ hvc_; rw [hva_] at ge403_1; rw [hvc_] at ul403_1; have HL403_1 := am_ (show Kd.V (Kd.int .i64) 3 _ w.heap.size _ _ ((rd_T44 l0_13 a1).f1) from Kd.V_mk ul403_1 ge403_1); clear hva_ hvn_ hvc_ ge403_1 ul403_1; have hv403_2 := hcc403 2 _ rfl; rw [add_field _ _ 2 (by omega)] at hv403_2; replace hv403_2 := Option.some.inj (hv403_2.symm.trans hx403_2); injection hv403_2 with hva_ hvn_ hvc_; rw [hva_] at ge403_2; rw [hvc_] at ul403_2; have HL403_2 := am_ (show Kd.V k74 74 _ w.heap.size _ _ ((rd_T44 l0_13 a1).f2) from Kd.V_mk ul403_2 ge403_2); clear hva_ hvn_ hvc_ ge403_2 ul403_2; have hv403_3 := hcc403 3 _ rfl; rw [add_field _ _ 3 (by omega)] at hv403_3; replace hv403_3 := Option.some.inj (hv403_3.symm.trans hx403_3); injection hv403_3 with hva_ hvn_ hvc_; rw [hva_] at ge403_3; rw [hvc_] at ul403_3; have HL403_3 := am_ (show Kd.V k48 48 _ w.heap.size _ _ ((rd_T44 l0_13 a1).f3) from Kd.V_mk ul403_3 ge403_3); clear hva_ hvn_ hvc_ ge403_3 ul403_3; have hv403_4 := hcc403 4 _ rfl; rw [add_field _ _ 4 (by omega)] at hv403_4; replace hv403_4 := Option.some.inj (hv403_4.symm.trans hx403_4); injection hv403_4 with hva_ hvn_ hvc_; rw [hva_] at ge403_4; rw [hvc_] at ul403_4; have HL403_4 := am_ (show Kd.V k74 74 _ w.heap.size _ _ ((rd_T44 l0_13 a1).f4) from Kd.V_mk ul403_4 ge403_4); clear hva_ hvn_ hvc_ ge403_4 ul403_4; have hv403_5 := hcc403 5 _ rfl; rw [add_field _ _ 5 (by omega)] at hv403_5; replace hv403_5 := Option.some.inj (hv403_5.symm.trans hx403_5); injection hv403_5 with hva_ hvn_ hvc_; rw [hva_] at ge403_5; rw [hvc_] at ul403_5; have HL403_5 := am_ (show Kd.V k81 81 _ w.heap.size _ _ ((rd_T44 l0_13 a1).f5) from Kd.V_mk ul403_5 ge403_5); clear hva_ hvn_ hvc_ ge403_5 ul403_5; clear hcc403 hce403; have HR403_0 := am_ hi403_0; have HC403_0 := am_ hl403_0; clear hi403_0 hl403_0; have HR403_1 := am_ hi403_1; have HC403_1 := am_ hl403_1; clear hi403_1 hl403_1; have HR403_2 := am_ hi403_2; have HC403_2 := am_ hl403_2; clear hi403_2 hl403_2; have HR403_3 := am_ hi403_3; have HC403_3 := am_ hl403_3; clear hi403_3 hl403_3; have HR403_4 := am_ hi403_4; have HC403_4 := am_ hl403_4; clear hi403_4 hl403_4; have HR403_5 := am_ hi403_5; have HC403_5 := am_ hl403_5; clear hi403_5 hl403_5; replace p403 := eq_true p403; replace q403 := eq_true q403) | ((with_reducible refine gate_store (t := 44) (p := 4) rfl ?_); refine row_store_event (t := 44) (p := 4) (v := ?vo_w19) ?hgd ?ho ?hn gb402 #[.slice A403_0 ((rd_T44 l0_13 a1).f0).length c403_0, .slice A403_1 ((rd_T44 l0_13 a1).f1).length c403_1, .slice A403_2 ((rd_T44 l0_13 a1).f2).length c403_2, .slice A403_3 ((rd_T44 l0_13 a1).f3).length c403_3, .slice A403_4 ((rd_T44 l0_13 a1).f4).length c403_4, .slice A403_5 ((rd_T44 l0_13 a1).f5).length c403_5] ?hx ?hy 44 #[.slice none 0 0, .slice none 0 0, .slice none 0 0, .slice none 0 0, .slice none 0 0, .slice none 0 0] ?hg ?hi ?hold ?h1 ?_; (case hgd => rfl); (case ho => rfl); (case hn => rfl); (case hx => rfl); (case hy => rfl); (case hg => exact (by (with_reducible repeat (first | apply kn_ | apply kd_ | apply ka_)); exact BK402.out)); (case hi => kernel_rfl); (case hold => rfl); (case h1 => (first | kernel_rfl | simp [Value.oneCell'])); intro w19 hw; have n0_ : Aside0 (Kd.V k44 44 w19 w.heap.size (fun k_ => (P0_13_ k_ ∨ w.heap.size ≤ k_) ∧ k_ ≠ gb401 ∧ k_ ≠ gb402) (.slice (some ad403) l0_13.length c0_13) l0_13) := ⟨(by rw [hw]; exact (by (with_reducible repeat (first | apply Kd.V_alloc | apply Kd.V_drewN | apply Kd.V_drew)); exact Kd.V_mono (Kd.V_farc (Kd.V_mono HO0_13.out (fun k_ hk => (⟨hk, hk.2⟩ : _ ∧ k_ ≠ gb402))) (fun _ hk => hk.2)) (fun _ hk => ⟨hk.1.1.1, ⟨hk.1.1.2, hk.1.2⟩⟩)))⟩; have n1_ : Aside0 (Kd.V (Kd.int .i64) 3 w19 w.heap.size (fun k_ => (P0_13_ k_ ∨ w.heap.size ≤ k_) ∧ k_ ≠ gb401 ∧ k_ ≠ gb402) (.slice A403_0 ((rd_T44 l0_13 a1).f0).length c403_0) ((rd_T44 l0_13 a1).f0)) := ⟨(by rw [hw]; exact (by (with_reducible repeat (first | apply Kd.V_alloc | apply Kd.V_drewN | apply Kd.V_drew)); exact Kd.V_mono (Kd.V_farc (Kd.V_mono HL403_0.out (fun k_ hk => (⟨hk, hk.2⟩ : _ ∧ k_ ≠ gb402))) (fun _ hk => hk.2)) (fun _ hk => ⟨hk.1.1.1, ⟨hk.1.1.2, hk.1.2⟩⟩)))⟩; have n2_ : Aside0 (Kd.V (Kd.int .i64) 3 w19 w.heap.size (fun k_ => (P0_13_ k_ ∨ w.heap.size ≤ k_) ∧ k_ ≠ gb401 ∧ k_ ≠ gb402) (.slice A403_1 ((rd_T44 l0_13 a1).f1).length c403_1) ((rd_T44 l0_13 a1).f1)) := ⟨(by rw [hw]; exact (by (with_reducible repeat (first | apply Kd.V_alloc | apply Kd.V_drewN | apply Kd.V_drew)); exact Kd.V_mono (Kd.V_farc (Kd.V_mono HL403_1.out (fun k_ hk => (⟨hk, hk.2⟩ : _ ∧ k_ ≠ gb402))) (fun _ hk => hk.2)) (fun _ hk => ⟨hk.1.1.1, ⟨hk.1.1.2, hk.1.2⟩⟩)))⟩; have n3_ : Aside0 (Kd.V k74 74 w19 w.heap.size (fun k_ => (P0_13_ k_ ∨ w.heap.size ≤ k_) ∧ k_ ≠ gb401 ∧ k_ ≠ gb402) (.slice A403_2 ((rd_T44 l0_13 a1).f2).length c403_2) ((rd_T44 l0_13 a1).f2)) := ⟨(by rw [hw]; exact (by (with_reducible repeat (first | apply Kd.V_alloc | apply Kd.V_drewN | apply Kd.V_drew)); exact Kd.V_mono (Kd.V_farc (Kd.V_mono HL403_2.out (fun k_ hk => (⟨hk, hk.2⟩ : _ ∧ k_ ≠ gb402))) (fun _ hk => hk.2)) (fun _ hk => ⟨hk.1.1.1, ⟨hk.1.1.2, hk.1.2⟩⟩)))⟩; have n4_ : Aside0 (Kd.V k48 48 w19 w.heap.size (fun k_ => (P0_13_ k_ ∨ w.heap.size ≤ k_) ∧ k_ ≠ gb401 ∧ k_ ≠ gb402) (.slice A403_3 ((rd_T44 l0_13 a1).f3).length c403_3) ((rd_T44 l0_13 a1).f3)) := ⟨(by rw [hw]; exact (by (with_reducible repeat (first | apply Kd.V_alloc | apply Kd.V_drewN | apply Kd.V_drew)); exact Kd.V_mono (Kd.V_farc (Kd.V_mono HL403_3.out (fun k_ hk => (⟨hk, hk.2⟩ : _ ∧ k_ ≠ gb402))) (fun _ hk => hk.2)) (fun _ hk => ⟨hk.1.1.1, ⟨hk.1.1.2, hk.1.2⟩⟩)))⟩; have n5_ : Aside0 (Kd.V k74 74 w19 w.heap.size (fun k_ => (P0_13_ k_ ∨ w.heap.size ≤ k_) ∧ k_ ≠ gb401 ∧ k_ ≠ gb402) (.slice A403_4 ((rd_T44 l0_13 a1).f4).length c403_4) ((rd_T44 l0_13 a1).f4)) := ⟨(by rw [hw]; exact (by (with_reducible repeat (first | apply Kd.V_alloc | apply Kd.V_drewN | apply Kd.V_drew)); exact Kd.V_mono (Kd.V_farc (Kd.V_mono HL403_4.out (fun k_ hk => (⟨hk, hk.2⟩ : _ ∧ k_ ≠ gb402))) (fun _ hk => hk.2)) (fun _ hk => ⟨hk.1.1.1, ⟨hk.1.1.2, hk.1.2⟩⟩)))⟩; have n6_ : Aside0 (Kd.V k81 81 w19 w.heap.size (fun k_ => (P0_13_ k_ ∨ w.heap.size ≤ k_) ∧ k_ ≠ gb401 ∧ k_ ≠ gb402) (.slice A403_5 ((rd_T44 l0_13 a1).f5).length c403_5) ((rd_T44 l0_13 a1).f5)) := ⟨(by rw [hw]; exact (by (with_reducible repeat (first | apply Kd.V_alloc | apply Kd.V_drewN | apply Kd.V_drew)); exact Kd.V_mono (Kd.V_farc (Kd.V_mono HL403_5.out (fun k_ hk => (⟨hk, hk.2⟩ : _ ∧ k_ ≠ gb402))) (fun _ hk => hk.2)) (fun _ hk => ⟨hk.1.1.1, ⟨hk.1.1.2, hk.1.2⟩⟩)))⟩; have n7_ : Aside0 (w19.heap[gb401]? = some (.cells #[.int .i64 a0_0, .int .i64 a0_1, .int .i64 a0_2, .int .i64 a0_3, .int .i64 a0_4, .int .i64 a0_5, .int .i64 a0_6, .int .i64 a0_7, .int .i64 a0_8, .int .i64 a0_9, .slice A0_10 l0_10.length c0_10, .slice A0_11 l0_11.length c0_11, .slice A0_12 l0_12.length c0_12, .slice (some ad403) l0_13.length c0_13] 28 (0, 0))) := ⟨(by rw [hw]; exact (by (with_reducible repeat (first | apply kn_ | apply kd_ | apply ka_)); refine blk_farc ?_ NB401_402.out; (with_reducible repeat (first | apply kn_ | apply kd_ | apply ka_)); exact BK401.out))⟩; have n8_ : Aside0 (w19.heap[gb402]? = some (.cells #[.slice A403_0 ((rd_T44 l0_13 a1).f0).length c403_0, .slice A403_1 ((rd_T44 l0_13 a1).f1).length c403_1, .slice A403_2 ((rd_T44 l0_13 a1).f2).length c403_2, .slice A403_3 ((rd_T44 l0_13 a1).f3).length c403_3, .slice A403_4 ((rd_T44 l0_13 a1).f4).length c403_4, .slice A403_5 ((rd_T44 l0_13 a1).f5).length c403_5] 44 (0, 0))) := ⟨(by rw [hw]; exact (by (with_reducible repeat (first | apply kn_ | apply kd_ | apply ka_)); refine setRow_heap _ _ #[.slice none 0 0, .slice none 0 0, .slice none 0 0, .slice none 0 0, .slice none 0 0, .slice none 0 0] _ 44 (0, 0) ?_; (with_reducible repeat (first | apply kn_ | apply kd_ | apply ka_)); exact BK402.out))⟩; have n9_ : Aside0 (Below w.heap.size w w19) := ⟨(by rw [hw]; exact (by repeat (first | (with_reducible first | exact HB.out | refine below_setc ?_ GE402.out | apply below_alloc | apply pw_below_drewN | apply below_drew1 | refine bs_ ?_ GE401.out | refine bs_ ?_ GE402.out) | exact HB.out)))⟩; clear hw; clear HO0_13; clear HL403_0; clear HL403_1; clear HL403_2; clear HL403_3; clear HL403_4; clear HL403_5; clear BK401; clear BK402; clear HB; have HO0_13 := n0_; have HL403_0 := n1_; have HL403_1 := n2_; have HL403_2 := n3_; have HL403_3 := n4_; have HL403_4 := n5_; have HL403_5 := n6_; have BK401 := n7_; have BK402 := n8_; have HB := n9_; clear n0_ n1_ n2_ n3_ n4_ n5_ n6_ n7_ n8_ n9_))
     refine bodyPost_ret (results_ct rfl _ _ gb402 44 #[.slice A403_0 ((rd_T44 l0_13 a1).f0).length c403_0, .slice A403_1 ((rd_T44 l0_13 a1).f1).length c403_1, .slice A403_2 ((rd_T44 l0_13 a1).f2).length c403_2, .slice A403_3 ((rd_T44 l0_13 a1).f3).length c403_3, .slice A403_4 ((rd_T44 l0_13 a1).f4).length c403_4, .slice A403_5 ((rd_T44 l0_13 a1).f5).length c403_5] (0, 0) _ rfl (by (with_reducible repeat (first | apply kn_ | apply kd_ | apply ka_)); exact BK402.out) Try.underlying44 rfl (by kernel_rfl)) rfl ?_
     exact ⟨_, _, _, _, _, _, by first | rfl | (simp [*] <;> rfl), by (with_reducible repeat (first | apply Kd.V_alloc | apply Kd.V_drewN | apply Kd.V_drew)); exact Kd.V_mono HL403_0.out (fun _ hk => hk.1), by (with_reducible repeat (first | apply Kd.V_alloc | apply Kd.V_drewN | apply Kd.V_drew)); exact Kd.V_mono HL403_1.out (fun _ hk => hk.1), by (with_reducible repeat (first | apply Kd.V_alloc | apply Kd.V_drewN | apply Kd.V_drew)); exact Kd.V_mono HL403_2.out (fun _ hk => hk.1), by (with_reducible repeat (first | apply Kd.V_alloc | apply Kd.V_drewN | apply Kd.V_drew)); exact Kd.V_mono HL403_3.out (fun _ hk => hk.1), by (with_reducible repeat (first | apply Kd.V_alloc | apply Kd.V_drewN | apply Kd.V_drew)); exact Kd.V_mono HL403_4.out (fun _ hk => hk.1), by (with_reducible repeat (first | apply Kd.V_alloc | apply Kd.V_drewN | apply Kd.V_drew)); exact Kd.V_mono HL403_5.out (fun _ hk => hk.1), by repeat (first | (with_reducible first | exact HB.out | apply ba_ | apply bn_ | apply bd_ | refine bs_ ?_ GE401.out | refine bs_ ?_ GE402.out) | exact HB.out)⟩
    ·rw [if_neg c14] at H
     exact absurd H (by simp)
   ·rw [if_neg c13] at H
    exact absurd H (by simp)
def script_listed_int.f (l0 : List Int) (a1 a2 : Int) : Option (Int) := if a1 < (l0.length : Int) then (if 0 ≤ a1 then (some (rd l0 a1)) else (none)) else (some a2)
set_option maxHeartbeats 8000000 in
set_option maxRecDepth 100000 in
theorem script_listed_int.calls (A0 : Option Addr) (c0 : Nat) (l0 : List Int) (a1 a2 r : Int) (w : World) (hr0 : Kd.C (Kd.int .i64) w A0 l0.length l0) (hc0 : l0.length ≤ c0) (h : script_listed_int.f l0 a1 a2 = some r) :
  Calls Try.prog 48 #[.slice A0 l0.length c0, .int .i64 a1, .int .i64 a2] w fun e w' => e = .returned (.int .i64 r) ∧ Drawn0 w w' := by
 have HR0 := am_ hr0
 have HC0 := am_ hc0
 clear hr0 hc0
 have H := h
 unfold script_listed_int.f at H
 clear h
 by_cases c4 : a1 < (l0.length : Int)
 ·rw [if_pos c4] at H
  have c4b0 : decide (a1 < (l0.length : Int)) = true := decide_eq_true c4
  clear c4
  by_cases c5 : 0 ≤ a1
  ·rw [if_pos c5] at H
   have c5b0 : decide (0 ≤ a1) = true := decide_eq_true c5
   clear c5
   obtain rfl := Option.some.inj H
   have p401 : 0 ≤ (a1 : Int) := of_decide_eq_true (by first | (with_reducible assumption) | assumption)
   have q401 : a1 < (l0.length : Int) := of_decide_eq_true (by first | (with_reducible assumption) | assumption)
   obtain ⟨ad401, e401, hx401_0⟩ := Kd.at_int HR0.out a1 p401 q401
   cases e401
   replace p401 := eq_true p401
   replace q401 := eq_true q401
   go_enter Try.func48, Try.ntmps48
   go_wp2
   go_ret
   exact ⟨by first | rfl | (simp; done) | (simp [*]; done), by repeat (first | exact Drawn0.refl _ | apply Drawn0.step)⟩
  ·rw [if_neg c5] at H
   exact absurd H (by simp)
 ·rw [if_neg c4] at H
  have c4b0 : decide (a1 < (l0.length : Int)) = false := decide_eq_false c4
  clear c4
  obtain rfl := Option.some.inj H
  go_enter Try.func48, Try.ntmps48
  go_wp2
  go_ret
  exact ⟨by first | rfl | (simp; done) | (simp [*]; done), by repeat (first | exact Drawn0.refl _ | apply Drawn0.step)⟩
end Go.Proofs.Ythdoghhmooodjaa.Gn
