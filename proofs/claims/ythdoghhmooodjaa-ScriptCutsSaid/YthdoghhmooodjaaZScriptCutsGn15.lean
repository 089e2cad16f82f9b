import Derived.Test.YthdoghhmooodjaaZScriptCutsGn0
import Derived.Test.YthdoghhmooodjaaZScriptCutsGn1
import Derived.Test.YthdoghhmooodjaaZScriptCutsGn12
import Derived.Test.YthdoghhmooodjaaZScriptCutsGn14
namespace Go.Proofs.Ythdoghhmooodjaa.Gn
open Go.RowKit Go.Proofs.YthdoghhmooodjaaW.PrintWords Go.Proofs.YthdoghhmooodjaaW.PrintLast Go.Proofs.YthdoghhmooodjaaW.PrintMore
attribute [local go_sem] max2_int min2_int max_two min_two max_three min_three max_four min_four   -- for this text's walks alone
set_option linter.unusedVariables false
set_option linter.unusedSimpArgs false
def script_tick.j0 : Nat → Bool → Int → Int → Int → Int → Int → Int → Int → Int → Int → Int → List Int → List Int → List Int → List (S74) → List (S48) → List (S74) → List (S81) → Option (Int)
 | 0, _, _, _, _, _, _, _, _, _, _, _, _, _, _, _, _, _, _ => none
 | k + 1, x6, x402000, x402001, x402002, x402003, x402004, x402005, x402006, x402007, x402008, x402009, x402010, x403000, x403001, x403002, x403003, x403004, x403005 => if x6 = true then (some 2) else ((script_full.f x403000 x403001 x403002 x403003 x403004 x403005).bind fun t407 => (if t407 = true then (some 9) else ((script_named.f x402000 x402001 x402002 x402003 x402004 x402005 x402006 x402007 x402008 x402009 x402010 x403000 x403001 x403002 x403003 x403004 x403005).bind fun t408 => (if t408 = true then ((script_short.f x403000 x403001 x403002 x403003 x403004 x403005).bind fun t409 => (if t409 = true then ((script_every_tick2.f x403005 ()).bind fun t410 => (if t410 = true then (some 0) else (some 15))) else (some 6))) else (some 7)))))
def script_tick.f (k : Nat) (a0_0 a0_1 a0_2 a0_3 a0_4 a0_5 a0_6 a0_7 a0_8 a0_9 : Int) (l0_10 l1_0 l1_1 : List Int) (l1_2 : List (S74)) (l1_3 : List (S48)) (l1_4 : List (S74)) (l1_5 : List (S81)) : Option (Int) := (script_numbers.f l1_0 a0_0).bind fun t403 => (if t403 = true then ((script_numbers.f l1_1 (wrap64 (a0_0 * a0_0))).bind fun t404 => (if t404 = true then ((script_every_tick1.f l1_2 ()).bind fun t405 => (if t405 = true then ((script_every_tick1.f l1_4 ()).bind fun t406 => (script_tick.j0 k (!t406) a0_0 a0_1 a0_2 a0_3 a0_4 a0_5 a0_6 a0_7 a0_8 a0_9 l0_10 l1_0 l1_1 l1_2 l1_3 l1_4 l1_5)) else (script_tick.j0 k (!t405) a0_0 a0_1 a0_2 a0_3 a0_4 a0_5 a0_6 a0_7 a0_8 a0_9 l0_10 l1_0 l1_1 l1_2 l1_3 l1_4 l1_5))) else (script_tick.j0 k (!t404) a0_0 a0_1 a0_2 a0_3 a0_4 a0_5 a0_6 a0_7 a0_8 a0_9 l0_10 l1_0 l1_1 l1_2 l1_3 l1_4 l1_5))) else (script_tick.j0 k (!t403) a0_0 a0_1 a0_2 a0_3 a0_4 a0_5 a0_6 a0_7 a0_8 a0_9 l0_10 l1_0 l1_1 l1_2 l1_3 l1_4 l1_5))
theorem script_tick.mono_l : ∀ k, (∀ y0 y1 y2 y3 y4 y5 y6 y7 y8 y9 y10 y11 y12 y13 y14 y15 y16 y17, LeO (script_tick.j0 k y0 y1 y2 y3 y4 y5 y6 y7 y8 y9 y10 y11 y12 y13 y14 y15 y16 y17) (script_tick.j0 (k + 1) y0 y1 y2 y3 y4 y5 y6 y7 y8 y9 y10 y11 y12 y13 y14 y15 y16 y17))
 | 0 => fun _ _ _ _ _ _ _ _ _ _ _ _ _ _ _ _ _ _ r h => by simp [script_tick.j0] at h
 | k + 1 => by
  have ih0 := script_tick.mono_l k
  ·intro y0 y1 y2 y3 y4 y5 y6 y7 y8 y9 y10 y11 y12 y13 y14 y15 y16 y17
   unfold script_tick.j0
   repeat' first
   | (with_reducible exact ih0 _ _ _ _ _ _ _ _ _ _ _ _ _ _ _ _ _ _)
   | (with_reducible exact LeO.refl _)
   | (with_reducible exact LeO.none _)
   | (with_reducible refine LeO.ite ?_ ?_)
   | (with_reducible refine LeO.bind ?_ (fun _ => ?_))
   | exact ih0 _ _ _ _ _ _ _ _ _ _ _ _ _ _ _ _ _ _
   | exact LeO.none _
   | refine LeO.ite ?_ ?_
   | refine LeO.bind ?_ (fun _ => ?_)
theorem script_tick.mono : ∀ a0 a1 a2 a3 a4 a5 a6 a7 a8 a9 a10 a11 a12 a13 a14 a15 a16 k, LeO (script_tick.f k a0 a1 a2 a3 a4 a5 a6 a7 a8 a9 a10 a11 a12 a13 a14 a15 a16) (script_tick.f (k + 1) a0 a1 a2 a3 a4 a5 a6 a7 a8 a9 a10 a11 a12 a13 a14 a15 a16) := by
 intro a0 a1 a2 a3 a4 a5 a6 a7 a8 a9 a10 a11 a12 a13 a14 a15 a16 k
 have ih0 := script_tick.mono_l k
 unfold script_tick.f
 repeat' first
   | (with_reducible exact ih0 _ _ _ _ _ _ _ _ _ _ _ _ _ _ _ _ _ _)
   | (with_reducible exact LeO.refl _)
   | (with_reducible exact LeO.none _)
   | (with_reducible refine LeO.ite ?_ ?_)
   | (with_reducible refine LeO.bind ?_ (fun _ => ?_))
   | exact ih0 _ _ _ _ _ _ _ _ _ _ _ _ _ _ _ _ _ _
   | exact LeO.none _
   | refine LeO.ite ?_ ?_
   | refine LeO.bind ?_ (fun _ => ?_)
set_option maxHeartbeats 8000000 in
set_option maxRecDepth 100000 in
theorem script_tick.calls (k : Nat) (a0_0 a0_1 a0_2 a0_3 a0_4 a0_5 a0_6 a0_7 a0_8 a0_9 : Int) (A0_10 : Option Addr) (c0_10 : Nat) (l0_10 : List Int) (A1_0 : Option Addr) (c1_0 : Nat) (l1_0 : List Int) (A1_1 : Option Addr) (c1_1 : Nat) (l1_1 : List Int) (A1_2 : Option Addr) (c1_2 : Nat) (l1_2 : List (S74)) (A1_3 : Option Addr) (c1_3 : Nat) (l1_3 : List (S48)) (A1_4 : Option Addr) (c1_4 : Nat) (l1_4 : List (S74)) (A1_5 : Option Addr) (c1_5 : Nat) (l1_5 : List (S81)) (r : Int) (w : World) (hr0_10 : Kd.C (Kd.int .i64) w A0_10 l0_10.length l0_10) (hc0_10 : l0_10.length ≤ c0_10) (hr1_0 : Kd.C (Kd.int .i64) w A1_0 l1_0.length l1_0) (hc1_0 : l1_0.length ≤ c1_0) (hr1_1 : Kd.C (Kd.int .i64) w A1_1 l1_1.length l1_1) (hc1_1 : l1_1.length ≤ c1_1) (hr1_2 : Kd.C k74 w A1_2 l1_2.length l1_2) (hc1_2 : l1_2.length ≤ c1_2) (hr1_3 : Kd.C k48 w A1_3 l1_3.length l1_3) (hc1_3 : l1_3.length ≤ c1_3) (hr1_4 : Kd.C k74 w A1_4 l1_4.length l1_4) (hc1_4 : l1_4.length ≤ c1_4) (hr1_5 : Kd.C k81 w A1_5 l1_5.length l1_5) (hc1_5 : l1_5.length ≤ c1_5) (h : script_tick.f k a0_0 a0_1 a0_2 a0_3 a0_4 a0_5 a0_6 a0_7 a0_8 a0_9 l0_10 l1_0 l1_1 l1_2 l1_3 l1_4 l1_5 = some r) :
  Calls Try.prog 41 #[.agg #[.int .i64 a0_0, .int .i64 a0_1, .int .i64 a0_2, .int .i64 a0_3, .int .i64 a0_4, .int .i64 a0_5, .int .i64 a0_6, .int .i64 a0_7, .int .i64 a0_8, .int .i64 a0_9, .slice A0_10 l0_10.length c0_10], .agg #[.slice A1_0 l1_0.length c1_0, .slice A1_1 l1_1.length c1_1, .slice A1_2 l1_2.length c1_2, .slice A1_3 l1_3.length c1_3, .slice A1_4 l1_4.length c1_4, .slice A1_5 l1_5.length c1_5]] w fun e w' => e = .returned (.int .i64 r) ∧ Below w.heap.size w w' := by
 have hu24 := Try.underlying24
 have hu44 := Try.underlying44
 have HR0_10 := am_ hr0_10
 have HC0_10 := am_ hc0_10
 clear hr0_10 hc0_10
 have HR1_0 := am_ hr1_0
 have HC1_0 := am_ hc1_0
 clear hr1_0 hc1_0
 have HR1_1 := am_ hr1_1
 have HC1_1 := am_ hc1_1
 clear hr1_1 hc1_1
 have HR1_2 := am_ hr1_2
 have HC1_2 := am_ hc1_2
 clear hr1_2 hc1_2
 have HR1_3 := am_ hr1_3
 have HC1_3 := am_ hc1_3
 clear hr1_3 hc1_3
 have HR1_4 := am_ hr1_4
 have HC1_4 := am_ hc1_4
 clear hr1_4 hc1_4
 have HR1_5 := am_ hr1_5
 have HC1_5 := am_ hc1_5
 clear hr1_5 hc1_5
 have HB := am_ (Below.refl w.heap.size w)
 have H := h
 unfold script_tick.f at H
 clear h
 obtain ⟨t403, A3, H⟩ := bes_ H
 try dsimp only at H
 have HC4 := am_ H
 clear H
 go_enter Try.func41, Try.ntmps41
 go_upto_if 6 with (first | ((with_reducible refine gate_dst (N := 2) rfl ?_); refine bxe_ 2 24 #[.int .i64 a0_0, .int .i64 a0_1, .int .i64 a0_2, .int .i64 a0_3, .int .i64 a0_4, .int .i64 a0_5, .int .i64 a0_6, .int .i64 a0_7, .int .i64 a0_8, .int .i64 a0_9, .slice A0_10 l0_10.length c0_10] ?_; intro gb401 hg w5 hbox hb; have BK401 := am_ (hbox); have GW401 := gwk_ HB hg; have GE401 := GW401; replace HB := bst_ HB hb; clear hb hbox hg) | ((with_reducible refine gate_dst (N := 3) rfl ?_); refine bxe_ 3 44 #[.slice A1_0 l1_0.length c1_0, .slice A1_1 l1_1.length c1_1, .slice A1_2 l1_2.length c1_2, .slice A1_3 l1_3.length c1_3, .slice A1_4 l1_4.length c1_4, .slice A1_5 l1_5.length c1_5] ?_; intro gb402 hg w6 hbox hb; have BK402 := am_ (hbox); have GW402 := gwk_ HB hg; have GE402 := GW402; replace HB := bst_ HB hb; have NB401_402 := nbk_ BK401 hg; have NB402_401 := nbs_ NB401_402; replace BK401 := bkb_ BK401 hb; clear hb hbox hg; have hnb7 := NB402_401.out; have hnc7 := NB401_402.out; have hcz8 := cells_6 BK402.out; have hfz8 := frozen_6 BK402.out; have hcz9 := cells_11 BK401.out; have hfz9 := frozen_11 BK401.out) | ((with_reducible refine gate_callee (f := 68) rfl ?_); refine gom_ (some 11) Try.func68 (script_numbers.calls _ _ l1_0 a0_0 _ _ (Kd.C_below HR1_0.out HB.out) HC1_0.out A3.out) ?_; rintro e w10 ⟨rfl, hb⟩; refine ⟨_, rfl, ?_⟩; replace BK401 := bkb_ BK401 hb; replace BK402 := bkb_ BK402 hb; replace HB := bst_ HB hb; (try clear hb)))
 (try simp only [Act.put, zs_])
 go_cut [6] (fun v6 wc => ∃ (kq : Nat) (x6_3 : Bool), v6 = .bool x6_3 ∧ Aside0 (script_tick.j0 kq x6_3 a0_0 a0_1 a0_2 a0_3 a0_4 a0_5 a0_6 a0_7 a0_8 a0_9 l0_10 l1_0 l1_1 l1_2 l1_3 l1_4 l1_5 = some r) ∧ Aside0 (kq ≤ k) ∧ Aside0 (wc.heap[gb401]? = some (.cells #[.int .i64 a0_0, .int .i64 a0_1, .int .i64 a0_2, .int .i64 a0_3, .int .i64 a0_4, .int .i64 a0_5, .int .i64 a0_6, .int .i64 a0_7, .int .i64 a0_8, .int .i64 a0_9, (.slice A0_10 l0_10.length c0_10)] 24 (0, 0))) ∧ Aside0 (wc.heap[gb402]? = some (.cells #[(.slice A1_0 l1_0.length c1_0), (.slice A1_1 l1_1.length c1_1), (.slice A1_2 l1_2.length c1_2), (.slice A1_3 l1_3.length c1_3), (.slice A1_4 l1_4.length c1_4), (.slice A1_5 l1_5.length c1_5)] 44 (0, 0))) ∧ Aside0 (Below w.heap.size w wc))
 case first =>
  have H := HC4.out
  clear HC4
  by_cases c11 : t403 = true
  ·subst c11
   rw [if_pos rfl] at H
   obtain ⟨t404, A12, H⟩ := bes_ H
   try dsimp only at H
   by_cases c13 : t404 = true
   ·subst c13
    rw [if_pos rfl] at H
    obtain ⟨t405, A14, H⟩ := bes_ H
    try dsimp only at H
    by_cases c15 : t405 = true
    ·subst c15
     rw [if_pos rfl] at H
     obtain ⟨t406, A16, H⟩ := bes_ H
     try dsimp only at H
     have H' := am_ H
     clear H
     have hnb17 := NB402_401.out
     have hnc17 := NB401_402.out
     have hcz18 := cells_6 BK402.out
     have hfz18 := frozen_6 BK402.out
     have hcz19 := cells_11 BK401.out
     have hfz19 := frozen_11 BK401.out
     go_wp2_with (first | ((with_reducible refine gate_callee (f := 68) rfl ?_); refine gom_ (some 20) Try.func68 (script_numbers.calls _ _ l1_1 (wrap64 (a0_0 * a0_0)) _ _ (Kd.C_below HR1_1.out HB.out) HC1_1.out A12.out) ?_; rintro e w20 ⟨rfl, hb⟩; refine ⟨_, rfl, ?_⟩; replace BK401 := bkb_ BK401 hb; replace BK402 := bkb_ BK402 hb; replace HB := bst_ HB hb; (try clear hb); have hcz21 := cells_6 BK402.out; have hfz21 := frozen_6 BK402.out) | ((with_reducible refine gate_callee (f := 69) rfl ?_); refine gom_ (some 25) Try.func69 (script_every_tick1.calls _ _ l1_2 () _ _ (Kd.C_below HR1_2.out HB.out) HC1_2.out A14.out) ?_; rintro e w22 ⟨rfl, hb⟩; refine ⟨_, rfl, ?_⟩; replace BK401 := bkb_ BK401 hb; replace BK402 := bkb_ BK402 hb; replace HB := bst_ HB hb; (try clear hb); have hcz23 := cells_6 BK402.out; have hfz23 := frozen_6 BK402.out) | ((with_reducible refine gate_callee (f := 69) rfl ?_); refine gom_ (some 30) Try.func69 (script_every_tick1.calls _ _ l1_4 () _ _ (Kd.C_below HR1_4.out HB.out) HC1_4.out A16.out) ?_; rintro e w24 ⟨rfl, hb⟩; refine ⟨_, rfl, ?_⟩; replace BK401 := bkb_ BK401 hb; replace BK402 := bkb_ BK402 hb; replace HB := bst_ HB hb; (try clear hb)))
     go_meet
     case rel => exact ⟨_, (!t406), (by first | rfl | (simp; done) | (simp [*]; done)), H', ⟨by first | omega | exact Nat.le_refl _⟩, ⟨by (with_reducible repeat (first | apply kn_ | apply kd_ | apply ka_)); exact BK401.out⟩, ⟨by (with_reducible repeat (first | apply kn_ | apply kd_ | apply ka_)); exact BK402.out⟩, ⟨by repeat (first | (with_reducible first | exact HB.out | apply ba_ | apply bn_ | apply bd_ | refine bs_ ?_ GE401.out | refine bs_ ?_ GE402.out) | exact HB.out)⟩⟩
    ·replace c15 := Bool.eq_false_iff.mpr c15
     subst c15
     rw [if_neg (show ¬ (false = true) by decide)] at H
     have H' := am_ H
     clear H
     have hnb25 := NB402_401.out
     have hnc25 := NB401_402.out
     have hcz26 := cells_6 BK402.out
     have hfz26 := frozen_6 BK402.out
     have hcz27 := cells_11 BK401.out
     have hfz27 := frozen_11 BK401.out
     go_wp2_with (first | ((with_reducible refine gate_callee (f := 68) rfl ?_); refine gom_ (some 20) Try.func68 (script_numbers.calls _ _ l1_1 (wrap64 (a0_0 * a0_0)) _ _ (Kd.C_below HR1_1.out HB.out) HC1_1.out A12.out) ?_; rintro e w28 ⟨rfl, hb⟩; refine ⟨_, rfl, ?_⟩; replace BK401 := bkb_ BK401 hb; replace BK402 := bkb_ BK402 hb; replace HB := bst_ HB hb; (try clear hb); have hcz29 := cells_6 BK402.out; have hfz29 := frozen_6 BK402.out) | ((with_reducible refine gate_callee (f := 69) rfl ?_); refine gom_ (some 25) Try.func69 (script_every_tick1.calls _ _ l1_2 () _ _ (Kd.C_below HR1_2.out HB.out) HC1_2.out A14.out) ?_; rintro e w30 ⟨rfl, hb⟩; refine ⟨_, rfl, ?_⟩; replace BK401 := bkb_ BK401 hb; replace BK402 := bkb_ BK402 hb; replace HB := bst_ HB hb; (try clear hb)))
     go_meet
     case rel => exact ⟨_, (!false), (by first | rfl | (simp; done) | (simp [*]; done)), H', ⟨by first | omega | exact Nat.le_refl _⟩, ⟨by (with_reducible repeat (first | apply kn_ | apply kd_ | apply ka_)); exact BK401.out⟩, ⟨by (with_reducible repeat (first | apply kn_ | apply kd_ | apply ka_)); exact BK402.out⟩, ⟨by repeat (first | (with_reducible first | exact HB.out | apply ba_ | apply bn_ | apply bd_ | refine bs_ ?_ GE401.out | refine bs_ ?_ GE402.out) | exact HB.out)⟩⟩
   ·replace c13 := Bool.eq_false_iff.mpr c13
    subst c13
    rw [if_neg (show ¬ (false = true) by decide)] at H
    have H' := am_ H
    clear H
    have hnb31 := NB402_401.out
    have hnc31 := NB401_402.out
    have hcz32 := cells_6 BK402.out
    have hfz32 := frozen_6 BK402.out
    have hcz33 := cells_11 BK401.out
    have hfz33 := frozen_11 BK401.out
    go_wp2_with (first | ((with_reducible refine gate_callee (f := 68) rfl ?_); refine gom_ (some 20) Try.func68 (script_numbers.calls _ _ l1_1 (wrap64 (a0_0 * a0_0)) _ _ (Kd.C_below HR1_1.out HB.out) HC1_1.out A12.out) ?_; rintro e w34 ⟨rfl, hb⟩; refine ⟨_, rfl, ?_⟩; replace BK401 := bkb_ BK401 hb; replace BK402 := bkb_ BK402 hb; replace HB := bst_ HB hb; (try clear hb)))
    go_meet
    case rel => exact ⟨_, (!false), (by first | rfl | (simp; done) | (simp [*]; done)), H', ⟨by first | omega | exact Nat.le_refl _⟩, ⟨by (with_reducible repeat (first | apply kn_ | apply kd_ | apply ka_)); exact BK401.out⟩, ⟨by (with_reducible repeat (first | apply kn_ | apply kd_ | apply ka_)); exact BK402.out⟩, ⟨by repeat (first | (with_reducible first | exact HB.out | apply ba_ | apply bn_ | apply bd_ | refine bs_ ?_ GE401.out | refine bs_ ?_ GE402.out) | exact HB.out)⟩⟩
  ·replace c11 := Bool.eq_false_iff.mpr c11
   subst c11
   rw [if_neg (show ¬ (false = true) by decide)] at H
   have H' := am_ H
   clear H
   go_wp2
   go_meet
   case rel => exact ⟨_, (!false), (by first | rfl | (simp; done) | (simp [*]; done)), H', ⟨by first | omega | exact Nat.le_refl _⟩, ⟨by (with_reducible repeat (first | apply kn_ | apply kd_ | apply ka_)); exact BK401.out⟩, ⟨by (with_reducible repeat (first | apply kn_ | apply kd_ | apply ka_)); exact BK402.out⟩, ⟨by repeat (first | (with_reducible first | exact HB.out | apply ba_ | apply bn_ | apply bd_ | refine bs_ ?_ GE401.out | refine bs_ ?_ GE402.out) | exact HB.out)⟩⟩
 case rest =>
  clear HC4
  try clear c1
  try clear c2
  try clear p2
  try clear c3
  try clear c4
  try clear c6
  try clear p6
  try clear c7
  try clear c11
  try clear c13
  try clear c15
  try clear c17
  try clear c25
  try clear c31
  try clear hcz18
  try clear hcz19
  try clear hcz21
  try clear hcz23
  try clear hcz26
  try clear hcz27
  try clear hcz29
  try clear hcz32
  try clear hcz33
  try clear hcz8
  try clear hcz9
  try clear hfz18
  try clear hfz19
  try clear hfz21
  try clear hfz23
  try clear hfz26
  try clear hfz27
  try clear hfz29
  try clear hfz32
  try clear hfz33
  try clear hfz8
  try clear hfz9
  obtain ⟨kq, x6_3, rfl, HA, HJ3, BK401, BK402, HB⟩ := hcut
  cases kq with
  | zero => exact absurd HA.out (by simp [script_tick.j0])
  | succ kj3 =>
   have H := HA.out
   clear HA
   simp only [script_tick.j0] at H
   by_cases c35 : x6_3 = true
   ·subst c35
    rw [if_pos rfl] at H
    obtain rfl := Option.some.inj H
    go_wp2
    go_ret
    exact ⟨by first | rfl | (simp [*] <;> rfl), by repeat (first | (with_reducible first | exact HB.out | apply ba_ | apply bn_ | apply bd_ | refine bs_ ?_ GE401.out | refine bs_ ?_ GE402.out) | exact HB.out)⟩
   ·replace c35 := Bool.eq_false_iff.mpr c35
    subst c35
    rw [if_neg (show ¬ (false = true) by decide)] at H
    obtain ⟨t407, A36, H⟩ := bes_ H
    try dsimp only at H
    by_cases c37 : t407 = true
    ·subst c37
     rw [if_pos rfl] at H
     obtain rfl := Option.some.inj H
     have hnb38 := NB402_401.out
     have hnc38 := NB401_402.out
     have hcz39 := cells_6 BK402.out
     have hfz39 := frozen_6 BK402.out
     go_wp2_with (first | ((with_reducible refine gate_callee (f := 70) rfl ?_); refine gom_ (some 34) Try.func70 (script_full.calls _ _ l1_0 _ _ l1_1 _ _ l1_2 _ _ l1_3 _ _ l1_4 _ _ l1_5 _ _ (Kd.C_below HR1_0.out HB.out) HC1_0.out (Kd.C_below HR1_1.out HB.out) HC1_1.out (Kd.C_below HR1_2.out HB.out) HC1_2.out (Kd.C_below HR1_3.out HB.out) HC1_3.out (Kd.C_below HR1_4.out HB.out) HC1_4.out (Kd.C_below HR1_5.out HB.out) HC1_5.out A36.out) ?_; rintro e w40 ⟨rfl, hb⟩; refine ⟨_, rfl, ?_⟩; replace BK401 := bkb_ BK401 hb; replace BK402 := bkb_ BK402 hb; replace HB := bst_ HB hb; (try clear hb)))
     go_ret
     exact ⟨by first | rfl | (simp [*] <;> rfl), by repeat (first | (with_reducible first | exact HB.out | apply ba_ | apply bn_ | apply bd_ | refine bs_ ?_ GE401.out | refine bs_ ?_ GE402.out) | exact HB.out)⟩
    ·replace c37 := Bool.eq_false_iff.mpr c37
     subst c37
     rw [if_neg (show ¬ (false = true) by decide)] at H
     obtain ⟨t408, A41, H⟩ := bes_ H
     try dsimp only at H
     by_cases c42 : t408 = true
     ·subst c42
      rw [if_pos rfl] at H
      obtain ⟨t409, A43, H⟩ := bes_ H
      try dsimp only at H
      by_cases c44 : t409 = true
      ·subst c44
       rw [if_pos rfl] at H
       obtain ⟨t410, A45, H⟩ := bes_ H
       try dsimp only at H
       by_cases c46 : t410 = true
       subst c46
       rw [if_pos rfl] at H
       obtain rfl := Option.some.inj H
       rotate_left
       replace c46 := Bool.eq_false_iff.mpr c46
       subst c46
       rw [if_neg (show ¬ (false = true) by decide)] at H
       obtain rfl := Option.some.inj H
       rotate_left
       all_goals
        have hnb47 := NB402_401.out
        have hnc47 := NB401_402.out
        have hcz48 := cells_6 BK402.out
        have hfz48 := frozen_6 BK402.out
        go_wp2_with (first | ((with_reducible refine gate_callee (f := 70) rfl ?_); refine gom_ (some 34) Try.func70 (script_full.calls _ _ l1_0 _ _ l1_1 _ _ l1_2 _ _ l1_3 _ _ l1_4 _ _ l1_5 _ _ (Kd.C_below HR1_0.out HB.out) HC1_0.out (Kd.C_below HR1_1.out HB.out) HC1_1.out (Kd.C_below HR1_2.out HB.out) HC1_2.out (Kd.C_below HR1_3.out HB.out) HC1_3.out (Kd.C_below HR1_4.out HB.out) HC1_4.out (Kd.C_below HR1_5.out HB.out) HC1_5.out A36.out) ?_; rintro e w49 ⟨rfl, hb⟩; refine ⟨_, rfl, ?_⟩; replace BK401 := bkb_ BK401 hb; replace BK402 := bkb_ BK402 hb; replace HB := bst_ HB hb; (try clear hb); have hcz50 := cells_11 BK401.out; have hfz50 := frozen_11 BK401.out; have hcz51 := cells_6 BK402.out; have hfz51 := frozen_6 BK402.out) | ((with_reducible refine gate_callee (f := 71) rfl ?_); refine gom_ (some 38) Try.func71 (script_named.calls a0_0 a0_1 a0_2 a0_3 a0_4 a0_5 a0_6 a0_7 a0_8 a0_9 _ _ l0_10 _ _ l1_0 _ _ l1_1 _ _ l1_2 _ _ l1_3 _ _ l1_4 _ _ l1_5 _ _ (Kd.C_below HR0_10.out HB.out) HC0_10.out (Kd.C_below HR1_0.out HB.out) HC1_0.out (Kd.C_below HR1_1.out HB.out) HC1_1.out (Kd.C_below HR1_2.out HB.out) HC1_2.out (Kd.C_below HR1_3.out HB.out) HC1_3.out (Kd.C_below HR1_4.out HB.out) HC1_4.out (Kd.C_below HR1_5.out HB.out) HC1_5.out A41.out) ?_; rintro e w52 ⟨rfl, hb⟩; refine ⟨_, rfl, ?_⟩; replace BK401 := bkb_ BK401 hb; replace BK402 := bkb_ BK402 hb; replace HB := bst_ HB hb; (try clear hb); have hcz53 := cells_6 BK402.out; have hfz53 := frozen_6 BK402.out) | ((with_reducible refine gate_callee (f := 72) rfl ?_); refine gom_ (some 42) Try.func72 (script_short.calls _ _ l1_0 _ _ l1_1 _ _ l1_2 _ _ l1_3 _ _ l1_4 _ _ l1_5 _ _ (Kd.C_below HR1_0.out HB.out) HC1_0.out (Kd.C_below HR1_1.out HB.out) HC1_1.out (Kd.C_below HR1_2.out HB.out) HC1_2.out (Kd.C_below HR1_3.out HB.out) HC1_3.out (Kd.C_below HR1_4.out HB.out) HC1_4.out (Kd.C_below HR1_5.out HB.out) HC1_5.out A43.out) ?_; rintro e w54 ⟨rfl, hb⟩; refine ⟨_, rfl, ?_⟩; replace BK401 := bkb_ BK401 hb; replace BK402 := bkb_ BK402 hb; replace HB := bst_ HB hb; (try clear hb); have hcz55 := cells_6 BK402.out; have hfz55 := frozen_6 BK402.out) | ((with_reducible refine gate_callee (f := 73) rfl ?_); refine gom_ (some 47) Try.func73 (script_every_tick2.calls _ _ l1_5 () _ _ (Kd.C_below HR1_5.out HB.out) HC1_5.out A45.out) ?_; rintro e w56 ⟨rfl, hb⟩; refine ⟨_, rfl, ?_⟩; replace BK401 := bkb_ BK401 hb; replace BK402 := bkb_ BK402 hb; replace HB := bst_ HB hb; (try clear hb)))
        go_ret
        exact ⟨by first | rfl | (simp [*] <;> rfl), by repeat (first | (with_reducible first | exact HB.out | apply ba_ | apply bn_ | apply bd_ | refine bs_ ?_ GE401.out | refine bs_ ?_ GE402.out) | exact HB.out)⟩
      ·replace c44 := Bool.eq_false_iff.mpr c44
       subst c44
       rw [if_neg (show ¬ (false = true) by decide)] at H
       obtain rfl := Option.some.inj H
       have hnb67 := NB402_401.out
       have hnc67 := NB401_402.out
       have hcz68 := cells_6 BK402.out
       have hfz68 := frozen_6 BK402.out
       go_wp2_with (first | ((with_reducible refine gate_callee (f := 70) rfl ?_); refine gom_ (some 34) Try.func70 (script_full.calls _ _ l1_0 _ _ l1_1 _ _ l1_2 _ _ l1_3 _ _ l1_4 _ _ l1_5 _ _ (Kd.C_below HR1_0.out HB.out) HC1_0.out (Kd.C_below HR1_1.out HB.out) HC1_1.out (Kd.C_below HR1_2.out HB.out) HC1_2.out (Kd.C_below HR1_3.out HB.out) HC1_3.out (Kd.C_below HR1_4.out HB.out) HC1_4.out (Kd.C_below HR1_5.out HB.out) HC1_5.out A36.out) ?_; rintro e w69 ⟨rfl, hb⟩; refine ⟨_, rfl, ?_⟩; replace BK401 := bkb_ BK401 hb; replace BK402 := bkb_ BK402 hb; replace HB := bst_ HB hb; (try clear hb); have hcz70 := cells_11 BK401.out; have hfz70 := frozen_11 BK401.out; have hcz71 := cells_6 BK402.out; have hfz71 := frozen_6 BK402.out) | ((with_reducible refine gate_callee (f := 71) rfl ?_); refine gom_ (some 38) Try.func71 (script_named.calls a0_0 a0_1 a0_2 a0_3 a0_4 a0_5 a0_6 a0_7 a0_8 a0_9 _ _ l0_10 _ _ l1_0 _ _ l1_1 _ _ l1_2 _ _ l1_3 _ _ l1_4 _ _ l1_5 _ _ (Kd.C_below HR0_10.out HB.out) HC0_10.out (Kd.C_below HR1_0.out HB.out) HC1_0.out (Kd.C_below HR1_1.out HB.out) HC1_1.out (Kd.C_below HR1_2.out HB.out) HC1_2.out (Kd.C_below HR1_3.out HB.out) HC1_3.out (Kd.C_below HR1_4.out HB.out) HC1_4.out (Kd.C_below HR1_5.out HB.out) HC1_5.out A41.out) ?_; rintro e w72 ⟨rfl, hb⟩; refine ⟨_, rfl, ?_⟩; replace BK401 := bkb_ BK401 hb; replace BK402 := bkb_ BK402 hb; replace HB := bst_ HB hb; (try clear hb); have hcz73 := cells_6 BK402.out; have hfz73 := frozen_6 BK402.out) | ((with_reducible refine gate_callee (f := 72) rfl ?_); refine gom_ (some 42) Try.func72 (script_short.calls _ _ l1_0 _ _ l1_1 _ _ l1_2 _ _ l1_3 _ _ l1_4 _ _ l1_5 _ _ (Kd.C_below HR1_0.out HB.out) HC1_0.out (Kd.C_below HR1_1.out HB.out) HC1_1.out (Kd.C_below HR1_2.out HB.out) HC1_2.out (Kd.C_below HR1_3.out HB.out) HC1_3.out (Kd.C_below HR1_4.out HB.out) HC1_4.out (Kd.C_below HR1_5.out HB.out) HC1_5.out A43.out) ?_; rintro e w74 ⟨rfl, hb⟩; refine ⟨_, rfl, ?_⟩; replace BK401 := bkb_ BK401 hb; replace BK402 := bkb_ BK402 hb; replace HB := bst_ HB hb; (try clear hb)))
       go_ret
       exact ⟨by first | rfl | (simp [*] <;> rfl), by repeat (first | (with_reducible first | exact HB.out | apply ba_ | apply bn_ | apply bd_ | refine bs_ ?_ GE401.out | refine bs_ ?_ GE402.out) | exact HB.out)⟩
     ·replace c42 := Bool.eq_false_iff.mpr c42
      subst c42
      rw [if_neg (show ¬ (false = true) by decide)] at H
      obtain rfl := Option.some.inj H
      have hnb75 := NB402_401.out
      have hnc75 := NB401_402.out
      have hcz76 := cells_6 BK402.out
      have hfz76 := frozen_6 BK402.out
      go_wp2_with (first | ((with_reducible refine gate_callee (f := 70) rfl ?_); refine gom_ (some 34) Try.func70 (script_full.calls _ _ l1_0 _ _ l1_1 _ _ l1_2 _ _ l1_3 _ _ l1_4 _ _ l1_5 _ _ (Kd.C_below HR1_0.out HB.out) HC1_0.out (Kd.C_below HR1_1.out HB.out) HC1_1.out (Kd.C_below HR1_2.out HB.out) HC1_2.out (Kd.C_below HR1_3.out HB.out) HC1_3.out (Kd.C_below HR1_4.out HB.out) HC1_4.out (Kd.C_below HR1_5.out HB.out) HC1_5.out A36.out) ?_; rintro e w77 ⟨rfl, hb⟩; refine ⟨_, rfl, ?_⟩; replace BK401 := bkb_ BK401 hb; replace BK402 := bkb_ BK402 hb; replace HB := bst_ HB hb; (try clear hb); have hcz78 := cells_11 BK401.out; have hfz78 := frozen_11 BK401.out; have hcz79 := cells_6 BK402.out; have hfz79 := frozen_6 BK402.out) | ((with_reducible refine gate_callee (f := 71) rfl ?_); refine gom_ (some 38) Try.func71 (script_named.calls a0_0 a0_1 a0_2 a0_3 a0_4 a0_5 a0_6 a0_7 a0_8 a0_9 _ _ l0_10 _ _ l1_0 _ _ l1_1 _ _ l1_2 _ _ l1_3 _ _ l1_4 _ _ l1_5 _ _ (Kd.C_below HR0_10.out HB.out) HC0_10.out (Kd.C_below HR1_0.out HB.out) HC1_0.out (Kd.C_below HR1_1.out HB.out) HC1_1.out (Kd.C_below HR1_2.out HB.out) HC1_2.out (Kd.C_below HR1_3.out HB.out) HC1_3.out (Kd.C_below HR1_4.out HB.out) HC1_4.out (Kd.C_below HR1_5.out HB.out) HC1_5.out A41.out) ?_; rintro e w80 ⟨rfl, hb⟩; refine ⟨_, rfl, ?_⟩; replace BK401 := bkb_ BK401 hb; replace BK402 := bkb_ BK402 hb; replace HB := bst_ HB hb; (try clear hb)))
      go_ret
      exact ⟨by first | rfl | (simp [*] <;> rfl), by repeat (first | (with_reducible first | exact HB.out | apply ba_ | apply bn_ | apply bd_ | refine bs_ ?_ GE401.out | refine bs_ ?_ GE402.out) | exact HB.out)⟩
end Go.Proofs.Ythdoghhmooodjaa.Gn
