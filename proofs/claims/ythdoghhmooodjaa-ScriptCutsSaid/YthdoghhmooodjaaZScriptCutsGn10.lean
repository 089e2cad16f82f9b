import Derived.Test.YthdoghhmooodjaaZScriptCutsGn0
import Derived.Test.YthdoghhmooodjaaZScriptCutsGn1
import Derived.Test.YthdoghhmooodjaaZScriptCutsGn8
import Derived.Test.YthdoghhmooodjaaZScriptCutsGn9
import Derived.Shelf.Abstract
namespace Go.Proofs.Ythdoghhmooodjaa.Gn
open Go.RowKit Go.Proofs.YthdoghhmooodjaaW.PrintWords Go.Proofs.YthdoghhmooodjaaW.PrintLast Go.Proofs.YthdoghhmooodjaaW.PrintMore
attribute [local go_sem] max2_int min2_int max_two min_two max_three min_three max_four min_four   -- for this text's walks alone
set_option linter.unusedVariables false
set_option linter.unusedSimpArgs false
def script_faulty.l0 : Nat → List Int → Int → Int → Int → Int → Int → Int → Int → Int → Int → Int → Int → Int → List Int → List Int → List ByteArray → List (S44) → Option (Bool)
 | 0, _, _, _, _, _, _, _, _, _, _, _, _, _, _, _, _, _ => none
 | k + 1, x6, x7, x8, x402000, x402001, x402002, x402003, x402004, x402005, x402006, x402007, x402008, x402009, x402010, x402011, x402012, x402013 => if x8 < x7 then (if 0 ≤ x8 then (if x8 < (x6.length : Int) then ((script_is.f k x402000 x402001 x402002 x402003 x402004 x402005 x402006 x402007 x402008 x402009 x402010 (rd x6 x8)).bind fun t403 => (if t403 = true then (if x8 ≤ (x402011.length : Int) then ((slices_Contains_int_int.f k (x402011.take (x8 : Int).toNat) (rd x6 x8)).bind fun t405 => (if t405 = true then (some false) else (script_faulty.l0 k x6 x7 (wrap64 (x8 + 1)) x402000 x402001 x402002 x402003 x402004 x402005 x402006 x402007 x402008 x402009 x402010 x402011 x402012 x402013))) else (none)) else (some false))) else (none)) else (none)) else (some true)
def script_faulty.f (k : Nat) (a0_0 a0_1 a0_2 a0_3 a0_4 a0_5 a0_6 a0_7 a0_8 a0_9 : Int) (l0_10 l0_11 : List Int) (l0_12 : List ByteArray) (l0_13 : List (S44)) : Option (Bool) := script_faulty.l0 k l0_11 (l0_11.length : Int) 0 a0_0 a0_1 a0_2 a0_3 a0_4 a0_5 a0_6 a0_7 a0_8 a0_9 l0_10 l0_11 l0_12 l0_13
theorem script_faulty.mono_l : ∀ k, (∀ y0 y1 y2 y3 y4 y5 y6 y7 y8 y9 y10 y11 y12 y13 y14 y15 y16, LeO (script_faulty.l0 k y0 y1 y2 y3 y4 y5 y6 y7 y8 y9 y10 y11 y12 y13 y14 y15 y16) (script_faulty.l0 (k + 1) y0 y1 y2 y3 y4 y5 y6 y7 y8 y9 y10 y11 y12 y13 y14 y15 y16))
 | 0 => fun _ _ _ _ _ _ _ _ _ _ _ _ _ _ _ _ _ r h => by simp [script_faulty.l0] at h
 | k + 1 => by
  have ih0 := script_faulty.mono_l k
  ·intro y0 y1 y2 y3 y4 y5 y6 y7 y8 y9 y10 y11 y12 y13 y14 y15 y16
   unfold script_faulty.l0
   repeat' first
   | (with_reducible exact ih0 _ _ _ _ _ _ _ _ _ _ _ _ _ _ _ _ _)
   | (with_reducible exact script_is.mono _ _ _ _ _ _ _ _ _ _ _ _ _)
   | (with_reducible exact slices_Contains_int_int.mono _ _ _)
   | (with_reducible exact LeO.refl _)
   | (with_reducible exact LeO.none _)
   | (with_reducible refine LeO.ite ?_ ?_)
   | (with_reducible refine LeO.bind ?_ (fun _ => ?_))
   | exact ih0 _ _ _ _ _ _ _ _ _ _ _ _ _ _ _ _ _
   | exact script_is.mono _ _ _ _ _ _ _ _ _ _ _ _ _
   | exact slices_Contains_int_int.mono _ _ _
   | exact LeO.none _
   | refine LeO.ite ?_ ?_
   | refine LeO.bind ?_ (fun _ => ?_)
theorem script_faulty.mono : ∀ a0 a1 a2 a3 a4 a5 a6 a7 a8 a9 a10 a11 a12 a13 k, LeO (script_faulty.f k a0 a1 a2 a3 a4 a5 a6 a7 a8 a9 a10 a11 a12 a13) (script_faulty.f (k + 1) a0 a1 a2 a3 a4 a5 a6 a7 a8 a9 a10 a11 a12 a13) := by
 intro a0 a1 a2 a3 a4 a5 a6 a7 a8 a9 a10 a11 a12 a13 k
 have ih0 := script_faulty.mono_l k
 unfold script_faulty.f
 repeat' first
   | (with_reducible exact ih0 _ _ _ _ _ _ _ _ _ _ _ _ _ _ _ _ _)
   | (with_reducible exact script_is.mono _ _ _ _ _ _ _ _ _ _ _ _ _)
   | (with_reducible exact slices_Contains_int_int.mono _ _ _)
   | (with_reducible exact LeO.refl _)
   | (with_reducible exact LeO.none _)
   | (with_reducible refine LeO.ite ?_ ?_)
   | (with_reducible refine LeO.bind ?_ (fun _ => ?_))
   | exact ih0 _ _ _ _ _ _ _ _ _ _ _ _ _ _ _ _ _
   | exact script_is.mono _ _ _ _ _ _ _ _ _ _ _ _ _
   | exact slices_Contains_int_int.mono _ _ _
   | exact LeO.none _
   | refine LeO.ite ?_ ?_
   | refine LeO.bind ?_ (fun _ => ?_)
set_option maxHeartbeats 8000000 in
set_option maxRecDepth 100000 in
theorem script_faulty.calls (k : Nat) (a0_0 a0_1 a0_2 a0_3 a0_4 a0_5 a0_6 a0_7 a0_8 a0_9 : Int) (A0_10 : Option Addr) (c0_10 : Nat) (l0_10 : List Int) (A0_11 : Option Addr) (c0_11 : Nat) (l0_11 : List Int) (A0_12 : Option Addr) (c0_12 : Nat) (l0_12 : List ByteArray) (A0_13 : Option Addr) (c0_13 : Nat) (l0_13 : List (S44)) (r : Bool) (w : World) (hr0_10 : Kd.C (Kd.int .i64) w A0_10 l0_10.length l0_10) (hc0_10 : l0_10.length ≤ c0_10) (hr0_11 : Kd.C (Kd.int .i64) w A0_11 l0_11.length l0_11) (hc0_11 : l0_11.length ≤ c0_11) (hr0_12 : Kd.C Kd.string w A0_12 l0_12.length l0_12) (hc0_12 : l0_12.length ≤ c0_12) (hr0_13 : Kd.C k44 w A0_13 l0_13.length l0_13) (hc0_13 : l0_13.length ≤ c0_13) (h : script_faulty.f k a0_0 a0_1 a0_2 a0_3 a0_4 a0_5 a0_6 a0_7 a0_8 a0_9 l0_10 l0_11 l0_12 l0_13 = some r) :
  Calls Try.prog 38 #[.agg #[.int .i64 a0_0, .int .i64 a0_1, .int .i64 a0_2, .int .i64 a0_3, .int .i64 a0_4, .int .i64 a0_5, .int .i64 a0_6, .int .i64 a0_7, .int .i64 a0_8, .int .i64 a0_9, .slice A0_10 l0_10.length c0_10, .slice A0_11 l0_11.length c0_11, .slice A0_12 l0_12.length c0_12, .slice A0_13 l0_13.length c0_13]] w fun e w' => e = .returned (.bool r) ∧ Below w.heap.size w w' := by
 have hu24 := Try.underlying24
 have HR0_10 := am_ hr0_10
 have HC0_10 := am_ hc0_10
 clear hr0_10 hc0_10
 have HR0_11 := am_ hr0_11
 have HC0_11 := am_ hc0_11
 clear hr0_11 hc0_11
 have HR0_12 := am_ hr0_12
 have HC0_12 := am_ hc0_12
 clear hr0_12 hc0_12
 have HR0_13 := am_ hr0_13
 have HC0_13 := am_ hc0_13
 clear hr0_13 hc0_13
 have HB := am_ (Below.refl w.heap.size w)
 have H := h
 unfold script_faulty.f at H
 clear h
 have H' := am_ H
 clear H
 go_enter Try.func38, Try.ntmps38
 go_wp2_with (first | ((with_reducible refine gate_load (t := 28) (x := .tmp 1) rfl ?_); refine lrg_ 28 (.tmp 1) gb401 28 (by exact BK401.out) Try.underlying28 ?_) | ((with_reducible refine gate_dst (N := 1) rfl ?_); refine bxe_ 1 28 #[.int .i64 a0_0, .int .i64 a0_1, .int .i64 a0_2, .int .i64 a0_3, .int .i64 a0_4, .int .i64 a0_5, .int .i64 a0_6, .int .i64 a0_7, .int .i64 a0_8, .int .i64 a0_9, .slice A0_10 l0_10.length c0_10, .slice A0_11 l0_11.length c0_11, .slice A0_12 l0_12.length c0_12, .slice A0_13 l0_13.length c0_13] ?_; intro gb401 hg w2 hbox hb; have BK401 := am_ (hbox); have GW401 := gwk_ HB hg; have GE401 := GW401; replace HB := bst_ HB hb; clear hb hbox hg; have hall1_ := cells_14 BK401.out; have hall2_ := frozen_14 BK401.out))
 go_loopg [8] k (fun kq v8 w' => ∃ (x8_1 : Int), v8 = .int .i64 x8_1 ∧ Aside0 (script_faulty.l0 kq l0_11 (l0_11.length : Int) x8_1 a0_0 a0_1 a0_2 a0_3 a0_4 a0_5 a0_6 a0_7 a0_8 a0_9 l0_10 l0_11 l0_12 l0_13 = some r) ∧ Aside0 (kq ≤ k) ∧ Aside0 (w'.heap[gb401]? = some (.cells #[.int .i64 a0_0, .int .i64 a0_1, .int .i64 a0_2, .int .i64 a0_3, .int .i64 a0_4, .int .i64 a0_5, .int .i64 a0_6, .int .i64 a0_7, .int .i64 a0_8, .int .i64 a0_9, (.slice A0_10 l0_10.length c0_10), (.slice A0_11 l0_11.length c0_11), (.slice A0_12 l0_12.length c0_12), (.slice A0_13 l0_13.length c0_13)] 28 (0, 0))) ∧ Aside0 (Below w.heap.size w w'))
 case atStart => exact ⟨(0), (by first | rfl | (simp; done) | (simp [*]; done)), H', ⟨Nat.le_refl _⟩, ⟨by (with_reducible repeat (first | apply kn_ | apply kd_ | apply ka_)); exact BK401.out⟩, ⟨by repeat (first | (with_reducible first | exact HB.out | apply ba_ | apply bn_ | apply bd_ | refine bs_ ?_ GE401.out) | exact HB.out)⟩⟩
 case round =>
  clear H'
  try clear p2
  try clear c3
  try clear hcz3_0 hcz3_1 hcz3_2 hcz3_3 hcz3_4 hcz3_5 hcz3_6 hcz3_7 hcz3_8 hcz3_9 hcz3_10 hcz3_11 hcz3_12 hcz3_13
  try clear hfz3_0 hfz3_1 hfz3_2 hfz3_3 hfz3_4 hfz3_5 hfz3_6 hfz3_7 hfz3_8 hfz3_9 hfz3_10 hfz3_11 hfz3_12 hfz3_13
  obtain ⟨x8_1, rfl, HA, HK1, BK401, HB⟩ := hrel
  cases gk with
  | zero => exact absurd HA.out (by simp [script_faulty.l0])
  | succ k1 =>
   have H := HA.out
   clear HA
   simp only [script_faulty.l0] at H
   by_cases c4 : x8_1 < (l0_11.length : Int)
   ·rw [if_pos c4] at H
    have c4b0 : decide (x8_1 < (l0_11.length : Int)) = true := decide_eq_true c4
    clear c4
    by_cases c5 : 0 ≤ x8_1
    ·rw [if_pos c5] at H
     have c5b0 : decide (0 ≤ x8_1) = true := decide_eq_true c5
     clear c5
     by_cases c6 : x8_1 < (l0_11.length : Int)
     ·rw [if_pos c6] at H
      have c6b0 : decide (x8_1 < (l0_11.length : Int)) = true := decide_eq_true c6
      clear c6
      obtain ⟨t403, A7, H⟩ := bes_ H
      try dsimp only at H
      by_cases c8 : t403 = true
      subst c8
      rw [if_pos rfl] at H
      have c9b0 := eq_true (of_decide_eq_true (by first | (with_reducible assumption) | assumption) : 0 ≤ x8_1)
      by_cases c10 : x8_1 ≤ (l0_11.length : Int)
      rw [if_pos c10] at H
      have c10b0 := eq_true c10
      have c10b1 : decide (x8_1 ≤ (l0_11.length : Int)) = true := decide_eq_true c10
      clear c10
      obtain ⟨t405, A11, H⟩ := bes_ H
      try dsimp only at H
      by_cases c12 : t405 = true
      subst c12
      rw [if_pos rfl] at H
      obtain rfl := Option.some.inj H
      rotate_left
      ·replace c12 := Bool.eq_false_iff.mpr c12
       subst c12
       rw [if_neg (show ¬ (false = true) by decide)] at H
       have H' := am_ H
       clear H
       have p402 : 0 ≤ (x8_1 : Int) := of_decide_eq_true (by first | (with_reducible assumption) | assumption)
       have q402 : x8_1 < (l0_11.length : Int) := of_decide_eq_true (by first | (with_reducible assumption) | assumption)
       obtain ⟨ad402, e402, hx402_0⟩ := Kd.at_int HR0_11.out x8_1 p402 q402
       cases e402
       replace hx402_0 := (HB.out.cell (World.block_lt_of_cell? w _ hx402_0)).trans hx402_0
       replace p402 := eq_true p402
       replace q402 := eq_true q402
       have hcz17 := cells_14 BK401.out
       have hfz17 := frozen_14 BK401.out
       go_wp2_with (first | ((with_reducible refine gate_load (t := 28) (x := .tmp 1) rfl ?_); refine lrg_ 28 (.tmp 1) gb401 28 (by exact BK401.out) Try.underlying28 ?_) | ((with_reducible refine gate_callee (f := 47) rfl ?_); refine gom_ (some 16) Try.func47 (script_is.calls k1 a0_0 a0_1 a0_2 a0_3 a0_4 a0_5 a0_6 a0_7 a0_8 a0_9 _ _ l0_10 (rd l0_11 x8_1) _ _ (Kd.C_below HR0_10.out HB.out) HC0_10.out A7.out) ?_; rintro e w18 ⟨rfl, hb⟩; refine ⟨_, rfl, ?_⟩; replace BK401 := bkb_ BK401 hb; replace HB := bst_ HB hb; (try clear hb); have hall5_ := cells_14 BK401.out; have hall6_ := frozen_14 BK401.out; obtain ⟨i020, hi020, _, hsz20, _⟩ := info_parts info3; obtain ⟨hcut20, hA20, hC20⟩ := print_take_of (P := Try.prog) (Value.int .i64) 0 22 3 .i64 Try.underlying22 hi020 hsz20 (some ad402) c0_11 l0_11 x8_1 (of_decide_eq_true (by first | (with_reducible assumption) | assumption)) (of_decide_eq_true (by first | (with_reducible assumption) | assumption)) HC0_11.out; have HR404 := am_ (Kd.C_of_reads (h1 := fun _ => rfl) (hA20 _ (Kd.reads_of_C HR0_11.out))); have HC404 := am_ hC20; clear hA20 hC20 hi020 hsz20) | (go_at_call 52; refine calls_of_args (args' := #[.slice (some ad402) (l0_11.take (x8_1 : Int).toNat).length c0_11, .int .i64 (rd l0_11 x8_1)]) (by first | (rw [show (l0_11.take (x8_1 : Int).toNat).length = x8_1.toNat from (by rw [List.length_take]; have h_ : (x8_1 : Int) ≤ (l0_11.length : Int) := of_decide_eq_true (by first | (with_reducible assumption) | assumption); omega)] <;> rfl) | rfl) ?_; (with_reducible refine (slices_Contains_int_int.calls k1 _ _ (l0_11.take (x8_1 : Int).toNat) (rd l0_11 x8_1) _ _ ?side1 ?side2 A11.out).mono ?_); (case side1 => exact (Kd.C_below HR404.out HB.out)); (case side2 => exact HC404.out); rintro e w' ⟨rfl, ⟨nd, rfl⟩⟩))
       go_roundg k1
       case measure => have := HK1.out; omega
       case rel => exact ⟨(wrap64 (x8_1 + 1)), (by first | rfl | (simp; done) | (simp [*]; done)), H', ⟨by have := HK1.out; omega⟩, ⟨by (with_reducible repeat (first | apply kn_ | apply kd_ | apply ka_)); exact BK401.out⟩, ⟨by repeat (first | (with_reducible first | exact HB.out | apply ba_ | apply bn_ | apply bd_ | refine bs_ ?_ GE401.out) | exact HB.out)⟩⟩
      ·rw [if_neg c10] at H
       exact absurd H (by simp)
      replace c8 := Bool.eq_false_iff.mpr c8
      subst c8
      rw [if_neg (show ¬ (false = true) by decide)] at H
      obtain rfl := Option.some.inj H
      rotate_left
      all_goals
       have p402 : 0 ≤ (x8_1 : Int) := of_decide_eq_true (by first | (with_reducible assumption) | assumption)
       have q402 : x8_1 < (l0_11.length : Int) := of_decide_eq_true (by first | (with_reducible assumption) | assumption)
       obtain ⟨ad402, e402, hx402_0⟩ := Kd.at_int HR0_11.out x8_1 p402 q402
       cases e402
       replace hx402_0 := (HB.out.cell (World.block_lt_of_cell? w _ hx402_0)).trans hx402_0
       replace p402 := eq_true p402
       replace q402 := eq_true q402
       have hcz13 := cells_14 BK401.out
       have hfz13 := frozen_14 BK401.out
      ·go_wp2_with (first | ((with_reducible refine gate_load (t := 28) (x := .tmp 1) rfl ?_); refine lrg_ 28 (.tmp 1) gb401 28 (by exact BK401.out) Try.underlying28 ?_) | ((with_reducible refine gate_callee (f := 47) rfl ?_); refine gom_ (some 16) Try.func47 (script_is.calls k1 a0_0 a0_1 a0_2 a0_3 a0_4 a0_5 a0_6 a0_7 a0_8 a0_9 _ _ l0_10 (rd l0_11 x8_1) _ _ (Kd.C_below HR0_10.out HB.out) HC0_10.out A7.out) ?_; rintro e w14 ⟨rfl, hb⟩; refine ⟨_, rfl, ?_⟩; replace BK401 := bkb_ BK401 hb; replace HB := bst_ HB hb; (try clear hb); have hall3_ := cells_14 BK401.out; have hall4_ := frozen_14 BK401.out; obtain ⟨i016, hi016, _, hsz16, _⟩ := info_parts info3; obtain ⟨hcut16, hA16, hC16⟩ := print_take_of (P := Try.prog) (Value.int .i64) 0 22 3 .i64 Try.underlying22 hi016 hsz16 (some ad402) c0_11 l0_11 x8_1 (of_decide_eq_true (by first | (with_reducible assumption) | assumption)) (of_decide_eq_true (by first | (with_reducible assumption) | assumption)) HC0_11.out; have HR404 := am_ (Kd.C_of_reads (h1 := fun _ => rfl) (hA16 _ (Kd.reads_of_C HR0_11.out))); have HC404 := am_ hC16; clear hA16 hC16 hi016 hsz16) | (go_at_call 52; refine calls_of_args (args' := #[.slice (some ad402) (l0_11.take (x8_1 : Int).toNat).length c0_11, .int .i64 (rd l0_11 x8_1)]) (by first | (rw [show (l0_11.take (x8_1 : Int).toNat).length = x8_1.toNat from (by rw [List.length_take]; have h_ : (x8_1 : Int) ≤ (l0_11.length : Int) := of_decide_eq_true (by first | (with_reducible assumption) | assumption); omega)] <;> rfl) | rfl) ?_; (with_reducible refine (slices_Contains_int_int.calls k1 _ _ (l0_11.take (x8_1 : Int).toNat) (rd l0_11 x8_1) _ _ ?side1 ?side2 A11.out).mono ?_); (case side1 => exact (Kd.C_below HR404.out HB.out)); (case side2 => exact HC404.out); rintro e w' ⟨rfl, ⟨nd, rfl⟩⟩))
       go_ret
       exact ⟨by first | rfl | (simp [*] <;> rfl), by repeat (first | (with_reducible first | exact HB.out | apply ba_ | apply bn_ | apply bd_ | refine bs_ ?_ GE401.out) | exact HB.out)⟩
      ·go_wp2_with (first | ((with_reducible refine gate_load (t := 28) (x := .tmp 1) rfl ?_); refine lrg_ 28 (.tmp 1) gb401 28 (by exact BK401.out) Try.underlying28 ?_) | ((with_reducible refine gate_callee (f := 47) rfl ?_); refine gom_ (some 16) Try.func47 (script_is.calls k1 a0_0 a0_1 a0_2 a0_3 a0_4 a0_5 a0_6 a0_7 a0_8 a0_9 _ _ l0_10 (rd l0_11 x8_1) _ _ (Kd.C_below HR0_10.out HB.out) HC0_10.out A7.out) ?_; rintro e w22 ⟨rfl, hb⟩; refine ⟨_, rfl, ?_⟩; replace BK401 := bkb_ BK401 hb; replace HB := bst_ HB hb; (try clear hb)))
       go_ret
       exact ⟨by first | rfl | (simp [*] <;> rfl), by repeat (first | (with_reducible first | exact HB.out | apply ba_ | apply bn_ | apply bd_ | refine bs_ ?_ GE401.out) | exact HB.out)⟩
     ·rw [if_neg c6] at H
      exact absurd H (by simp)
    ·rw [if_neg c5] at H
     exact absurd H (by simp)
   ·rw [if_neg c4] at H
    have c4b0 : decide (x8_1 < (l0_11.length : Int)) = false := decide_eq_false c4
    clear c4
    obtain rfl := Option.some.inj H
    go_wp2
    go_ret
    exact ⟨by first | rfl | (simp [*] <;> rfl), by repeat (first | (with_reducible first | exact HB.out | apply ba_ | apply bn_ | apply bd_ | refine bs_ ?_ GE401.out) | exact HB.out)⟩
theorem tkall {α : Type} (p : α → Bool) (l : List α) (z : α) (j : Nat) (hj : j < l.length) : (l.take (j + 1)).all p = ((l.take j).all p && p (l.getD j z)) := by
 rw [List.take_succ_eq_append_getElem hj, List.all_append, List.getD_eq_getElem?_getD, List.getElem?_eq_getElem hj]
 simp
theorem noall {α : Type} (p : α → Bool) (l : List α) (z : α) (j : Nat) (hj : j < l.length) (h : p (l.getD j z) = false) : l.all p = false := by
 rw [List.getD_eq_getElem?_getD, List.getElem?_eq_getElem hj] at h
 cases e : l.all p with
 | false => rfl
 | true => exact absurd (List.all_eq_true.1 e _ (List.getElem_mem hj)) (by simp at h; simp [h])
set_option maxHeartbeats 8000000 in
set_option maxRecDepth 100000 in
theorem script_every_int.calls (p : Int → Bool) (A0 : Option Addr) (c0 : Nat) (l0 : List Int) (g : Nat) (lb : Array Value) (eg : ∀ args w, (callFunc g args).run Try.prog w = .ok (.enter g args) w) (w : World) (hr0 : Kd.C (Kd.int .i64) w A0 l0.length l0) (hp : ∀ W, Below w.heap.size w W → ∀ x : Int, Calls Try.prog g (#[.int .i64 x] ++ lb) W fun e W' => e = .returned (.bool (p x)) ∧ Below W.heap.size W W') :
  Calls Try.prog 97 #[.slice A0 l0.length c0, .func (.func g) #[] lb] w fun e w' => e = .returned (.bool (l0.all p)) ∧ Below w.heap.size w w' := by
 have HR0 := am_ hr0
 clear hr0
 have HB := am_ (Below.refl w.heap.size w)
 go_enter Try.func97, Try.ntmps97
 go_wp2
 go_loopg [9] l0.length (fun kq v9 w' => ∃ j : Nat, v9 = .int .i64 (j : Int) ∧ j + kq = l0.length ∧ Aside0 ((l0.take j).all p = true) ∧ Aside0 (Below w.heap.size w w'))
 case atStart => exact ⟨0, rfl, by omega, ⟨by simp⟩, HB⟩
 case round =>
  obtain ⟨j, rfl, hj, HA, HB⟩ := hrel
  cases gk with
  | zero =>
   have c : decide ((j : Int) < (l0.length : Int)) = false := decide_eq_false (by omega)
   have e : l0.all p = true := by have := HA.out; rwa [List.take_of_length_le (by omega)] at this
   go_wp2
   go_ret
   exact ⟨by rw [e]; rfl, HB.out⟩
  | succ k1 =>
   have hlt : j < l0.length := by omega
   have c : decide ((j : Int) < (l0.length : Int)) = true := decide_eq_true (by omega)
   have ew : wrap64 ((j : Int) + 1) = ((j + 1 : Nat) : Int) := by have := Kd.C_max HR0.out; unfold wrap64; omega
   have hq : l0.getD j (0 : Int) = rd l0 (j : Int) := rfl
   obtain ⟨ad402, e402, hx_0⟩ := Kd.at_int HR0.out (j : Int) (by omega) (by omega)
   cases e402
   rw [Int.toNat_natCast] at hx_0
   replace hx_0 := (HB.out.cell (World.block_lt_of_cell? w _ hx_0)).trans hx_0
   have p402 : (0 ≤ (j : Int)) = True := eq_true (by omega)
   have q402 : ((j : Int) < (l0.length : Int)) = True := eq_true (by omega)
   cases hpx : p (rd l0 (j : Int)) with
   | false =>
    have hn := noall p l0 (0 : Int) j hlt (by rw [hq]; exact hpx)
    clear hlt hq hj
    go_wp2_with (go_at_fn g; refine (hp _ (HB.out) (rd l0 (j : Int))).mono ?_; rintro e W' ⟨rfl, hb⟩; rw [hpx]; replace HB := am_ (below_step (HB.out) hb); clear hb)
    go_ret
    exact ⟨by rw [hn]; rfl, HB.out⟩
   | true =>
    have hn := tkall p l0 (0 : Int) j hlt
    rw [hq, hpx, HA.out] at hn
    clear hlt hq
    go_wp2_with (go_at_fn g; refine (hp _ (HB.out) (rd l0 (j : Int))).mono ?_; rintro e W' ⟨rfl, hb⟩; rw [hpx]; replace HB := am_ (below_step (HB.out) hb); clear hb)
    go_roundg k1
    case measure => omega
    case rel => exact ⟨j + 1, by first | rfl | rw [ew], by omega, ⟨by rw [hn]; rfl⟩, HB⟩
set_option maxHeartbeats 8000000 in
set_option maxRecDepth 100000 in
theorem script_every_string.calls (p : ByteArray → Bool) (A0 : Option Addr) (c0 : Nat) (l0 : List ByteArray) (g : Nat) (lb : Array Value) (eg : ∀ args w, (callFunc g args).run Try.prog w = .ok (.enter g args) w) (w : World) (hr0 : Kd.C Kd.string w A0 l0.length l0) (hp : ∀ W, Below w.heap.size w W → ∀ x : ByteArray, Calls Try.prog g (#[.string x] ++ lb) W fun e W' => e = .returned (.bool (p x)) ∧ Below W.heap.size W W') :
  Calls Try.prog 39 #[.slice A0 l0.length c0, .func (.func g) #[] lb] w fun e w' => e = .returned (.bool (l0.all p)) ∧ Below w.heap.size w w' := by
 have HR0 := am_ hr0
 clear hr0
 have HB := am_ (Below.refl w.heap.size w)
 go_enter Try.func39, Try.ntmps39
 go_wp2
 go_loopg [9] l0.length (fun kq v9 w' => ∃ j : Nat, v9 = .int .i64 (j : Int) ∧ j + kq = l0.length ∧ Aside0 ((l0.take j).all p = true) ∧ Aside0 (Below w.heap.size w w'))
 case atStart => exact ⟨0, rfl, by omega, ⟨by simp⟩, HB⟩
 case round =>
  obtain ⟨j, rfl, hj, HA, HB⟩ := hrel
  cases gk with
  | zero =>
   have c : decide ((j : Int) < (l0.length : Int)) = false := decide_eq_false (by omega)
   have e : l0.all p = true := by have := HA.out; rwa [List.take_of_length_le (by omega)] at this
   go_wp2
   go_ret
   exact ⟨by rw [e]; rfl, HB.out⟩
  | succ k1 =>
   have hlt : j < l0.length := by omega
   have c : decide ((j : Int) < (l0.length : Int)) = true := decide_eq_true (by omega)
   have ew : wrap64 ((j : Int) + 1) = ((j + 1 : Nat) : Int) := by have := Kd.C_max HR0.out; unfold wrap64; omega
   have hq : l0.getD j ByteArray.empty = rdOf ByteArray.empty l0 (j : Int) := rfl
   obtain ⟨ad402, e402, hx_0⟩ := Kd.at_string HR0.out (j : Int) (by omega) (by omega)
   cases e402
   rw [Int.toNat_natCast] at hx_0
   replace hx_0 := (HB.out.cell (World.block_lt_of_cell? w _ hx_0)).trans hx_0
   have p402 : (0 ≤ (j : Int)) = True := eq_true (by omega)
   have q402 : ((j : Int) < (l0.length : Int)) = True := eq_true (by omega)
   cases hpx : p (rdOf ByteArray.empty l0 (j : Int)) with
   | false =>
    have hn := noall p l0 ByteArray.empty j hlt (by rw [hq]; exact hpx)
    clear hlt hq hj
    go_wp2_with (go_at_fn g; refine (hp _ (HB.out) (rdOf ByteArray.empty l0 (j : Int))).mono ?_; rintro e W' ⟨rfl, hb⟩; rw [hpx]; replace HB := am_ (below_step (HB.out) hb); clear hb)
    go_ret
    exact ⟨by rw [hn]; rfl, HB.out⟩
   | true =>
    have hn := tkall p l0 ByteArray.empty j hlt
    rw [hq, hpx, HA.out] at hn
    clear hlt hq
    go_wp2_with (go_at_fn g; refine (hp _ (HB.out) (rdOf ByteArray.empty l0 (j : Int))).mono ?_; rintro e W' ⟨rfl, hb⟩; rw [hpx]; replace HB := am_ (below_step (HB.out) hb); clear hb)
    go_roundg k1
    case measure => omega
    case rel => exact ⟨j + 1, by first | rfl | rw [ew], by omega, ⟨by rw [hn]; rfl⟩, HB⟩
/-- What is asked of each. -/
def script_Right1B (x : ByteArray) : Bool := decide ((x.size : Int) ≤ 8000)
theorem script_Right1.calls (x : ByteArray) (w : World) : Calls Try.prog 40 (#[.string x] ++ #[]) w fun e w' => e = .returned (.bool (script_Right1B x)) ∧ Below w.heap.size w w' := by
 unfold script_Right1B
 go_enter Try.func40, Try.ntmps40
 go_wp2
 go_ret
 exact ⟨by first | rfl | simp, by repeat (first | exact Below.refl _ _ | apply below_alloc)⟩
def script_every_Right1.f (l0 : List ByteArray) (a1 : Unit) : Option Bool := some (l0.all script_Right1B)
theorem script_every_Right1.calls (A0 : Option Addr) (c0 : Nat) (l0 : List ByteArray) (a1 : Unit) (r : Bool) (w : World) (hr0 : Kd.C Kd.string w A0 l0.length l0) (hc0 : l0.length ≤ c0) (h : script_every_Right1.f l0 a1 = some r) :
  Calls Try.prog 39 #[.slice A0 l0.length c0, .func (.func 40) #[] #[]] w fun e w' => e = .returned (.bool r) ∧ Below w.heap.size w w' := by
 unfold script_every_Right1.f at h
 obtain rfl := Option.some.inj h
 exact script_every_string.calls script_Right1B A0 c0 l0 40 #[] (enters_of Try.func40 (by kernel_rfl) rfl) w hr0 (fun W _ x => script_Right1.calls x W)
end Go.Proofs.Ythdoghhmooodjaa.Gn
