import Derived.Test.YthdoghhmooodjaaZScriptCutsGn0
import Derived.Test.YthdoghhmooodjaaZScriptCutsGn1
namespace Go.Proofs.Ythdoghhmooodjaa.Gn
open Go.RowKit Go.Proofs.YthdoghhmooodjaaW.PrintWords Go.Proofs.YthdoghhmooodjaaW.PrintLast Go.Proofs.YthdoghhmooodjaaW.PrintMore
attribute [local go_sem] max2_int min2_int max_two min_two max_three min_three max_four min_four   -- for this text's walks alone
set_option linter.unusedVariables false
set_option linter.unusedSimpArgs false
mutual
def r33_Few.j0 : Nat → Bool → Int → Int → Int → Int → Int → Int → Int → Int → Int → Int → List Int → List Int → List ByteArray → List (S44) → Option (Bool)
 | 0, _, _, _, _, _, _, _, _, _, _, _, _, _, _, _ => none
 | k + 1, x33, x402000, x402001, x402002, x402003, x402004, x402005, x402006, x402007, x402008, x402009, x402010, x402011, x402012, x402013 => if x33 = true then (some false) else (r33_Few.l0 k 0 x402000 x402001 x402002 x402003 x402004 x402005 x402006 x402007 x402008 x402009 x402010 x402011 x402012 x402013)
def r33_Few.l0 : Nat → Int → Int → Int → Int → Int → Int → Int → Int → Int → Int → Int → List Int → List Int → List ByteArray → List (S44) → Option (Bool)
 | 0, _, _, _, _, _, _, _, _, _, _, _, _, _, _, _ => none
 | k + 1, x5, x402000, x402001, x402002, x402003, x402004, x402005, x402006, x402007, x402008, x402009, x402010, x402011, x402012, x402013 => if x5 < (x402012.length : Int) then (if 0 ≤ x5 then (if ((rdOf ByteArray.empty x402012 x5).size : Int) > 16000 then (some false) else (r33_Few.l0 k (wrap64 (x5 + 1)) x402000 x402001 x402002 x402003 x402004 x402005 x402006 x402007 x402008 x402009 x402010 x402011 x402012 x402013)) else (none)) else (r33_Few.l1 k 0 x402000 x402001 x402002 x402003 x402004 x402005 x402006 x402007 x402008 x402009 x402010 x402011 x402012 x402013)
def r33_Few.l1 : Nat → Int → Int → Int → Int → Int → Int → Int → Int → Int → Int → Int → List Int → List Int → List ByteArray → List (S44) → Option (Bool)
 | 0, _, _, _, _, _, _, _, _, _, _, _, _, _, _, _ => none
 | k + 1, x6, x402000, x402001, x402002, x402003, x402004, x402005, x402006, x402007, x402008, x402009, x402010, x402011, x402012, x402013 => if x6 < (x402013.length : Int) then (if 0 ≤ x6 then (if (((rd_T44 x402013 x6).f0).length : Int) > 100 then (r33_Few.j3 k x6 true x402000 x402001 x402002 x402003 x402004 x402005 x402006 x402007 x402008 x402009 x402010 x402011 x402012 x402013 ((rd_T44 x402013 x6).f0) ((rd_T44 x402013 x6).f1) ((rd_T44 x402013 x6).f2) ((rd_T44 x402013 x6).f3) ((rd_T44 x402013 x6).f4) ((rd_T44 x402013 x6).f5)) else (if (((rd_T44 x402013 x6).f1).length : Int) > 400 then (r33_Few.j3 k x6 true x402000 x402001 x402002 x402003 x402004 x402005 x402006 x402007 x402008 x402009 x402010 x402011 x402012 x402013 ((rd_T44 x402013 x6).f0) ((rd_T44 x402013 x6).f1) ((rd_T44 x402013 x6).f2) ((rd_T44 x402013 x6).f3) ((rd_T44 x402013 x6).f4) ((rd_T44 x402013 x6).f5)) else (if (((rd_T44 x402013 x6).f2).length : Int) > 100 then (r33_Few.j3 k x6 true x402000 x402001 x402002 x402003 x402004 x402005 x402006 x402007 x402008 x402009 x402010 x402011 x402012 x402013 ((rd_T44 x402013 x6).f0) ((rd_T44 x402013 x6).f1) ((rd_T44 x402013 x6).f2) ((rd_T44 x402013 x6).f3) ((rd_T44 x402013 x6).f4) ((rd_T44 x402013 x6).f5)) else (if (((rd_T44 x402013 x6).f3).length : Int) > 100 then (r33_Few.j3 k x6 true x402000 x402001 x402002 x402003 x402004 x402005 x402006 x402007 x402008 x402009 x402010 x402011 x402012 x402013 ((rd_T44 x402013 x6).f0) ((rd_T44 x402013 x6).f1) ((rd_T44 x402013 x6).f2) ((rd_T44 x402013 x6).f3) ((rd_T44 x402013 x6).f4) ((rd_T44 x402013 x6).f5)) else (if (((rd_T44 x402013 x6).f4).length : Int) > 100 then (r33_Few.j3 k x6 true x402000 x402001 x402002 x402003 x402004 x402005 x402006 x402007 x402008 x402009 x402010 x402011 x402012 x402013 ((rd_T44 x402013 x6).f0) ((rd_T44 x402013 x6).f1) ((rd_T44 x402013 x6).f2) ((rd_T44 x402013 x6).f3) ((rd_T44 x402013 x6).f4) ((rd_T44 x402013 x6).f5)) else (r33_Few.j3 k x6 (decide ((((rd_T44 x402013 x6).f5).length : Int) > 100)) x402000 x402001 x402002 x402003 x402004 x402005 x402006 x402007 x402008 x402009 x402010 x402011 x402012 x402013 ((rd_T44 x402013 x6).f0) ((rd_T44 x402013 x6).f1) ((rd_T44 x402013 x6).f2) ((rd_T44 x402013 x6).f3) ((rd_T44 x402013 x6).f4) ((rd_T44 x402013 x6).f5))))))) else (none)) else (some true)
def r33_Few.j3 : Nat → Int → Bool → Int → Int → Int → Int → Int → Int → Int → Int → Int → Int → List Int → List Int → List ByteArray → List (S44) → List Int → List Int → List (S74) → List (S48) → List (S74) → List (S81) → Option (Bool)
 | 0, _, _, _, _, _, _, _, _, _, _, _, _, _, _, _, _, _, _, _, _, _, _ => none
 | k + 1, x6, x93, x402000, x402001, x402002, x402003, x402004, x402005, x402006, x402007, x402008, x402009, x402010, x402011, x402012, x402013, x405000, x405001, x405002, x405003, x405004, x405005 => if x93 = true then (some false) else (r33_Few.l2 k x6 x405003 (x405003.length : Int) 0 x402000 x402001 x402002 x402003 x402004 x402005 x402006 x402007 x402008 x402009 x402010 x402011 x402012 x402013)
def r33_Few.l2 : Nat → Int → List (S48) → Int → Int → Int → Int → Int → Int → Int → Int → Int → Int → Int → Int → List Int → List Int → List ByteArray → List (S44) → Option (Bool)
 | 0, _, _, _, _, _, _, _, _, _, _, _, _, _, _, _, _, _, _ => none
 | k + 1, x6, x95, x96, x97, x402000, x402001, x402002, x402003, x402004, x402005, x402006, x402007, x402008, x402009, x402010, x402011, x402012, x402013 => if x97 < x96 then (if 0 ≤ x97 then (if x97 < (x95.length : Int) then (if (((rd_T48 x95 x97).f1).size : Int) > 16000 then (some false) else (r33_Few.l2 k x6 x95 x96 (wrap64 (x97 + 1)) x402000 x402001 x402002 x402003 x402004 x402005 x402006 x402007 x402008 x402009 x402010 x402011 x402012 x402013)) else (none)) else (none)) else (r33_Few.l1 k (wrap64 (x6 + 1)) x402000 x402001 x402002 x402003 x402004 x402005 x402006 x402007 x402008 x402009 x402010 x402011 x402012 x402013)
end
def r33_Few.f (k : Nat) (a0_0 a0_1 a0_2 a0_3 a0_4 a0_5 a0_6 a0_7 a0_8 a0_9 : Int) (l0_10 l0_11 : List Int) (l0_12 : List ByteArray) (l0_13 : List (S44)) (a1 : Int) : Option (Bool) := if (l0_13.length : Int) > a1 then (r33_Few.j0 k true a0_0 a0_1 a0_2 a0_3 a0_4 a0_5 a0_6 a0_7 a0_8 a0_9 l0_10 l0_11 l0_12 l0_13) else (if (l0_10.length : Int) > 100 then (r33_Few.j0 k true a0_0 a0_1 a0_2 a0_3 a0_4 a0_5 a0_6 a0_7 a0_8 a0_9 l0_10 l0_11 l0_12 l0_13) else (if (l0_11.length : Int) > 100 then (r33_Few.j0 k true a0_0 a0_1 a0_2 a0_3 a0_4 a0_5 a0_6 a0_7 a0_8 a0_9 l0_10 l0_11 l0_12 l0_13) else (r33_Few.j0 k (decide ((l0_12.length : Int) > 100)) a0_0 a0_1 a0_2 a0_3 a0_4 a0_5 a0_6 a0_7 a0_8 a0_9 l0_10 l0_11 l0_12 l0_13)))
set_option maxHeartbeats 8000000 in
set_option maxRecDepth 100000 in
theorem r33_Few.calls (k : Nat) (a0_0 a0_1 a0_2 a0_3 a0_4 a0_5 a0_6 a0_7 a0_8 a0_9 : Int) (A0_10 : Option Addr) (c0_10 : Nat) (l0_10 : List Int) (A0_11 : Option Addr) (c0_11 : Nat) (l0_11 : List Int) (A0_12 : Option Addr) (c0_12 : Nat) (l0_12 : List ByteArray) (A0_13 : Option Addr) (c0_13 : Nat) (l0_13 : List (S44)) (a1 : Int) (r : Bool) (w : World) (hr0_10 : Kd.C (Kd.int .i64) w A0_10 l0_10.length l0_10) (hc0_10 : l0_10.length ≤ c0_10) (hr0_11 : Kd.C (Kd.int .i64) w A0_11 l0_11.length l0_11) (hc0_11 : l0_11.length ≤ c0_11) (hr0_12 : Kd.C Kd.string w A0_12 l0_12.length l0_12) (hc0_12 : l0_12.length ≤ c0_12) (hr0_13 : Kd.C k44 w A0_13 l0_13.length l0_13) (hc0_13 : l0_13.length ≤ c0_13) (h : r33_Few.f k a0_0 a0_1 a0_2 a0_3 a0_4 a0_5 a0_6 a0_7 a0_8 a0_9 l0_10 l0_11 l0_12 l0_13 a1 = some r) :
  Calls Try.prog 10 #[.agg #[.int .i64 a0_0, .int .i64 a0_1, .int .i64 a0_2, .int .i64 a0_3, .int .i64 a0_4, .int .i64 a0_5, .int .i64 a0_6, .int .i64 a0_7, .int .i64 a0_8, .int .i64 a0_9, .slice A0_10 l0_10.length c0_10, .slice A0_11 l0_11.length c0_11, .slice A0_12 l0_12.length c0_12, .slice A0_13 l0_13.length c0_13], .int .i64 a1] w fun e w' => e = .returned (.bool r) ∧ Below w.heap.size w w' := by
 have hu44 := Try.underlying44
 have hu48 := Try.underlying48
 have HR0_10 := am_ hr0_10
 have HC0_10 := am_ hc0_10
 clear hr0_10 hc0_10
 have HR0_11 := am_ hr0_11
 have HC0_11 := am_ hc0_11
 clear hr0_11 hc0_11
 have HR0_12 := am_ hr0_12
 have HC0_12 := am_ hc0_12
 clear hr0_12 hc0_12
 have HR0_13 := am_ hr0_13
 have HC0_13 := am_ hc0_13
 clear hr0_13 hc0_13
 have HB := am_ (Below.refl w.heap.size w)
 have H := h
 unfold r33_Few.f at H
 clear h
 have HC3 := am_ H
 clear H
 go_enter Try.func10, Try.ntmps10
 go_upto_region 1 with (first | ((with_reducible refine gate_load (t := 28) (x := .tmp 2) rfl ?_); refine lrg_ 28 (.tmp 2) gb401 28 (by exact BK401.out) Try.underlying28 ?_) | ((with_reducible refine gate_dst (N := 2) rfl ?_); (try (refine gate_guard (by rfl) ?_; dsimp only)); refine bxe_ 2 28 #[.int .i64 a0_0, .int .i64 a0_1, .int .i64 a0_2, .int .i64 a0_3, .int .i64 a0_4, .int .i64 a0_5, .int .i64 a0_6, .int .i64 a0_7, .int .i64 a0_8, .int .i64 a0_9, .slice A0_10 l0_10.length c0_10, .slice A0_11 l0_11.length c0_11, .slice A0_12 l0_12.length c0_12, .slice A0_13 l0_13.length c0_13] ?_; intro gb401 hg w4 hbox hb; have BK401 := am_ (hbox); have GW401 := gwk_ HB hg; have GE401 := GW401; replace HB := bst_ HB hb; clear hb hbox hg))
 (try simp only [Act.put, zs_])
 go_cut [33] (fun v33 wc => ∃ (kq : Nat) (x33_2 : Bool), v33 = .bool x33_2 ∧ Aside0 (r33_Few.j0 kq x33_2 a0_0 a0_1 a0_2 a0_3 a0_4 a0_5 a0_6 a0_7 a0_8 a0_9 l0_10 l0_11 l0_12 l0_13 = some r) ∧ Aside0 (kq ≤ k) ∧ Aside0 (wc.heap[gb401]? = some (.cells #[.int .i64 a0_0, .int .i64 a0_1, .int .i64 a0_2, .int .i64 a0_3, .int .i64 a0_4, .int .i64 a0_5, .int .i64 a0_6, .int .i64 a0_7, .int .i64 a0_8, .int .i64 a0_9, (.slice A0_10 l0_10.length c0_10), (.slice A0_11 l0_11.length c0_11), (.slice A0_12 l0_12.length c0_12), (.slice A0_13 l0_13.length c0_13)] 28 (0, 0))) ∧ Aside0 (Below w.heap.size w wc))
 case first =>
  have H := HC3.out
  clear HC3
  by_cases c5 : (l0_13.length : Int) > a1
  ·rw [if_pos c5] at H
   have c5b0 : decide (a1 < (l0_13.length : Int)) = true := decide_eq_true c5
   clear c5
   (first | rw [c5b0] | (simp only [i64_w, i32_w]; rw [c5b0]) | skip)
   have H' := am_ H
   clear H
   have hcz6 := cells_14 BK401.out
   have hfz6 := frozen_14 BK401.out
   go_wp2
   go_meet
   case rel => exact ⟨_, (true), (by first | rfl | (simp; done) | (simp [*]; done)), H', ⟨by first | omega | exact Nat.le_refl _⟩, ⟨by (with_reducible repeat (first | apply kn_ | apply kd_ | apply ka_)); exact BK401.out⟩, ⟨by repeat (first | (with_reducible first | exact HB.out | apply ba_ | apply bn_ | apply bd_ | refine bs_ ?_ GE401.out) | exact HB.out)⟩⟩
  ·rw [if_neg c5] at H
   have c5b0 : decide (a1 < (l0_13.length : Int)) = false := decide_eq_false c5
   clear c5
   (first | rw [c5b0] | (simp only [i64_w, i32_w]; rw [c5b0]) | skip)
   by_cases c7 : (l0_10.length : Int) > 100
   ·rw [if_pos c7] at H
    have c7b0 : decide (100 < (l0_10.length : Int)) = true := decide_eq_true c7
    have c7b1 : decide (100 < l0_10.length) = true := decide_eq_true (by omega)
    clear c7
    have H' := am_ H
    clear H
    have hcz8 := cells_14 BK401.out
    have hfz8 := frozen_14 BK401.out
    go_wp2
    go_meet
    case rel => exact ⟨_, (true), (by first | rfl | (simp; done) | (simp [*]; done)), H', ⟨by first | omega | exact Nat.le_refl _⟩, ⟨by (with_reducible repeat (first | apply kn_ | apply kd_ | apply ka_)); exact BK401.out⟩, ⟨by repeat (first | (with_reducible first | exact HB.out | apply ba_ | apply bn_ | apply bd_ | refine bs_ ?_ GE401.out) | exact HB.out)⟩⟩
   ·rw [if_neg c7] at H
    have c7b0 : decide (100 < (l0_10.length : Int)) = false := decide_eq_false c7
    have c7b1 : decide (100 < l0_10.length) = false := decide_eq_false (by omega)
    clear c7
    by_cases c9 : (l0_11.length : Int) > 100
    ·rw [if_pos c9] at H
     have c9b0 : decide (100 < (l0_11.length : Int)) = true := decide_eq_true c9
     have c9b1 : decide (100 < l0_11.length) = true := decide_eq_true (by omega)
     clear c9
     have H' := am_ H
     clear H
     have hcz10 := cells_14 BK401.out
     have hfz10 := frozen_14 BK401.out
     go_wp2
     go_meet
     case rel => exact ⟨_, (true), (by first | rfl | (simp; done) | (simp [*]; done)), H', ⟨by first | omega | exact Nat.le_refl _⟩, ⟨by (with_reducible repeat (first | apply kn_ | apply kd_ | apply ka_)); exact BK401.out⟩, ⟨by repeat (first | (with_reducible first | exact HB.out | apply ba_ | apply bn_ | apply bd_ | refine bs_ ?_ GE401.out) | exact HB.out)⟩⟩
    ·rw [if_neg c9] at H
     have c9b0 : decide (100 < (l0_11.length : Int)) = false := decide_eq_false c9
     have c9b1 : decide (100 < l0_11.length) = false := decide_eq_false (by omega)
     clear c9
     have H' := am_ H
     clear H
     have hcz11 := cells_14 BK401.out
     have hfz11 := frozen_14 BK401.out
     go_wp2
     go_meet
     case rel => exact ⟨_, (decide ((l0_12.length : Int) > 100)), (by first | rfl | (simp; done) | (simp [*]; done)), H', ⟨by first | omega | exact Nat.le_refl _⟩, ⟨by (with_reducible repeat (first | apply kn_ | apply kd_ | apply ka_)); exact BK401.out⟩, ⟨by repeat (first | (with_reducible first | exact HB.out | apply ba_ | apply bn_ | apply bd_ | refine bs_ ?_ GE401.out) | exact HB.out)⟩⟩
 case rest =>
  clear HC3
  try clear c1
  try clear p2
  try clear c5
  try clear c5b0
  try clear c7
  try clear c7b0
  try clear c7b1
  try clear c9
  try clear c9b0
  try clear c9b1
  try clear c10
  try clear hcz10
  try clear hcz11
  try clear hcz6
  try clear hcz8
  try clear hfz10
  try clear hfz11
  try clear hfz6
  try clear hfz8
  obtain ⟨kq, x33_2, rfl, HA, HJ2, BK401, HB⟩ := hcut
  cases kq with
  | zero => exact absurd HA.out (by simp [r33_Few.j0])
  | succ kj2 =>
   have H := HA.out
   clear HA
   simp only [r33_Few.j0] at H
   by_cases c12 : x33_2 = true
   ·subst c12
    rw [if_pos rfl] at H
    obtain rfl := Option.some.inj H
    go_wp2
    go_ret
    exact ⟨by first | rfl | (simp [*] <;> rfl), by repeat (first | (with_reducible first | exact HB.out | apply ba_ | apply bn_ | apply bd_ | refine bs_ ?_ GE401.out) | exact HB.out)⟩
   ·replace c12 := Bool.eq_false_iff.mpr c12
    subst c12
    rw [if_neg (show ¬ (false = true) by decide)] at H
    have H' := am_ H
    clear H
    go_wp2
    go_loopg [5] kj2 (fun kq v5 w' => ∃ (x5_2 : Int), v5 = .int .i64 x5_2 ∧ Aside0 (r33_Few.l0 kq x5_2 a0_0 a0_1 a0_2 a0_3 a0_4 a0_5 a0_6 a0_7 a0_8 a0_9 l0_10 l0_11 l0_12 l0_13 = some r) ∧ Aside0 (kq ≤ kj2) ∧ Aside0 (w'.heap[gb401]? = some (.cells #[.int .i64 a0_0, .int .i64 a0_1, .int .i64 a0_2, .int .i64 a0_3, .int .i64 a0_4, .int .i64 a0_5, .int .i64 a0_6, .int .i64 a0_7, .int .i64 a0_8, .int .i64 a0_9, (.slice A0_10 l0_10.length c0_10), (.slice A0_11 l0_11.length c0_11), (.slice A0_12 l0_12.length c0_12), (.slice A0_13 l0_13.length c0_13)] 28 (0, 0))) ∧ Aside0 (Below w.heap.size w w'))
    case atStart => exact ⟨(0), (by first | rfl | (simp; done) | (simp [*]; done)), H', ⟨Nat.le_refl _⟩, ⟨by (with_reducible repeat (first | apply kn_ | apply kd_ | apply ka_)); exact BK401.out⟩, ⟨by repeat (first | (with_reducible first | exact HB.out | apply ba_ | apply bn_ | apply bd_ | refine bs_ ?_ GE401.out) | exact HB.out)⟩⟩
    case round =>
     clear H'
     try clear c1
     try clear p2
     try clear c5
     try clear c5b0
     try clear c7
     try clear c7b0
     try clear c7b1
     try clear c9
     try clear c9b0
     try clear c9b1
     try clear c10
     try clear c12
     try clear hcz10
     try clear hcz11
     try clear hcz6
     try clear hcz8
     try clear hfz10
     try clear hfz11
     try clear hfz6
     try clear hfz8
     try clear p2
     obtain ⟨x5_2, rfl, HA, HK2, BK401, HB⟩ := hrel
     cases gk with
     | zero => exact absurd HA.out (by simp [r33_Few.l0])
     | succ k2 =>
      have H := HA.out
      clear HA
      simp only [r33_Few.l0] at H
      by_cases c13 : x5_2 < (l0_12.length : Int)
      ·rw [if_pos c13] at H
       have c13b0 : decide (x5_2 < (l0_12.length : Int)) = true := decide_eq_true c13
       clear c13
       by_cases c14 : 0 ≤ x5_2
       ·rw [if_pos c14] at H
        have c14b0 : decide (0 ≤ x5_2) = true := decide_eq_true c14
        clear c14
        by_cases c15 : ((rdOf ByteArray.empty l0_12 x5_2).size : Int) > 16000
        ·rw [if_pos c15] at H
         have c15b0 : decide (16000 < ((rdOf ByteArray.empty l0_12 x5_2).size : Int)) = true := decide_eq_true c15
         have c15b1 : decide (16000 < (rdOf ByteArray.empty l0_12 x5_2).size) = true := decide_eq_true (by omega)
         clear c15
         obtain rfl := Option.some.inj H
         have hcz16 := cells_14 BK401.out
         have hfz16 := frozen_14 BK401.out
         have p402 : 0 ≤ (x5_2 : Int) := of_decide_eq_true (by first | (with_reducible assumption) | assumption)
         have q402 : x5_2 < (l0_12.length : Int) := of_decide_eq_true (by first | (with_reducible assumption) | assumption)
         obtain ⟨ad402, e402, hx402_0⟩ := Kd.at_string HR0_12.out x5_2 p402 q402
         cases e402
         replace hx402_0 := (HB.out.cell (World.block_lt_of_cell? w _ hx402_0)).trans hx402_0
         replace p402 := eq_true p402
         replace q402 := eq_true q402
         go_wp2
         go_ret
         exact ⟨by first | rfl | (simp [*] <;> rfl), by repeat (first | (with_reducible first | exact HB.out | apply ba_ | apply bn_ | apply bd_ | refine bs_ ?_ GE401.out) | exact HB.out)⟩
        ·rw [if_neg c15] at H
         have c15b0 : decide (16000 < ((rdOf ByteArray.empty l0_12 x5_2).size : Int)) = false := decide_eq_false c15
         have c15b1 : decide (16000 < (rdOf ByteArray.empty l0_12 x5_2).size) = false := decide_eq_false (by omega)
         clear c15
         have H' := am_ H
         clear H
         have hcz17 := cells_14 BK401.out
         have hfz17 := frozen_14 BK401.out
         have p402 : 0 ≤ (x5_2 : Int) := of_decide_eq_true (by first | (with_reducible assumption) | assumption)
         have q402 : x5_2 < (l0_12.length : Int) := of_decide_eq_true (by first | (with_reducible assumption) | assumption)
         obtain ⟨ad402, e402, hx402_0⟩ := Kd.at_string HR0_12.out x5_2 p402 q402
         cases e402
         replace hx402_0 := (HB.out.cell (World.block_lt_of_cell? w _ hx402_0)).trans hx402_0
         replace p402 := eq_true p402
         replace q402 := eq_true q402
         go_wp2
         go_roundg k2
         case measure => have := HJ2.out; have := HK2.out; omega
         case rel => exact ⟨(wrap64 (x5_2 + 1)), (by first | rfl | (simp; done) | (simp [*]; done)), H', ⟨by have := HJ2.out; have := HK2.out; omega⟩, ⟨by (with_reducible repeat (first | apply kn_ | apply kd_ | apply ka_)); exact BK401.out⟩, ⟨by repeat (first | (with_reducible first | exact HB.out | apply ba_ | apply bn_ | apply bd_ | refine bs_ ?_ GE401.out) | exact HB.out)⟩⟩
       ·rw [if_neg c14] at H
        exact absurd H (by simp)
      ·rw [if_neg c13] at H
       have c13b0 : decide (x5_2 < (l0_12.length : Int)) = false := decide_eq_false c13
       clear c13
       have H' := am_ H
       clear H
       have hcz18 := cells_14 BK401.out
       have hfz18 := frozen_14 BK401.out
       go_wp2
       go_loopg [6] k2 (fun kq v6 w' => ∃ (x6_3 : Int), v6 = .int .i64 x6_3 ∧ Aside0 (r33_Few.l1 kq x6_3 a0_0 a0_1 a0_2 a0_3 a0_4 a0_5 a0_6 a0_7 a0_8 a0_9 l0_10 l0_11 l0_12 l0_13 = some r) ∧ Aside0 (kq ≤ k2) ∧ Aside0 (w'.heap[gb401]? = some (.cells #[.int .i64 a0_0, .int .i64 a0_1, .int .i64 a0_2, .int .i64 a0_3, .int .i64 a0_4, .int .i64 a0_5, .int .i64 a0_6, .int .i64 a0_7, .int .i64 a0_8, .int .i64 a0_9, (.slice A0_10 l0_10.length c0_10), (.slice A0_11 l0_11.length c0_11), (.slice A0_12 l0_12.length c0_12), (.slice A0_13 l0_13.length c0_13)] 28 (0, 0))) ∧ Aside0 (Below w.heap.size w w'))
       case atStart => exact ⟨(0), (by first | rfl | (simp; done) | (simp [*]; done)), H', ⟨Nat.le_refl _⟩, ⟨by (with_reducible repeat (first | apply kn_ | apply kd_ | apply ka_)); exact BK401.out⟩, ⟨by repeat (first | (with_reducible first | exact HB.out | apply ba_ | apply bn_ | apply bd_ | refine bs_ ?_ GE401.out) | exact HB.out)⟩⟩
       case round =>
        clear H'
        try clear c1
        try clear p2
        try clear p4
        try clear q4
        try clear hx4
        try clear c5
        try clear c5b0
        try clear p6
        try clear c7
        try clear c7b0
        try clear c7b1
        try clear c9
        try clear c9b0
        try clear c9b1
        try clear c10
        try clear c12
        try clear c13
        try clear c13b0
        try clear c14
        try clear c14b0
        try clear c15
        try clear c15b0
        try clear c15b1
        try clear hcz10
        try clear hcz11
        try clear hcz16
        try clear hcz17
        try clear hcz18
        try clear hcz6
        try clear hcz8
        try clear hfz10
        try clear hfz11
        try clear hfz16
        try clear hfz17
        try clear hfz18
        try clear hfz6
        try clear hfz8
        try clear hx402_0
        try clear p2
        try clear p402
        try clear q402
        obtain ⟨x6_3, rfl, HA, HK3, BK401, HB⟩ := hrel
        cases gk with
        | zero => exact absurd HA.out (by simp [r33_Few.l1])
        | succ k3 =>
         have H := HA.out
         clear HA
         simp only [r33_Few.l1] at H
         by_cases c19 : x6_3 < (l0_13.length : Int)
         ·rw [if_pos c19] at H
          have c19b0 : decide (x6_3 < (l0_13.length : Int)) = true := decide_eq_true c19
          clear c19
          by_cases c20 : 0 ≤ x6_3
          ·rw [if_pos c20] at H
           have c20b0 : decide (0 ≤ x6_3) = true := decide_eq_true c20
           clear c20
           have HC21 := am_ H
           clear H
           have hcz22 := cells_14 BK401.out
           have hfz22 := frozen_14 BK401.out
           have p403 : 0 ≤ (x6_3 : Int) := of_decide_eq_true (by first | (with_reducible assumption) | assumption)
           have q403 : x6_3 < (l0_13.length : Int) := of_decide_eq_true (by first | (with_reducible assumption) | assumption)
           obtain ⟨ad403, A403_0, c403_0, A403_1, c403_1, A403_2, c403_2, A403_3, c403_3, A403_4, c403_4, A403_5, c403_5, e403, hx403_0, hx403_1, hx403_2, hx403_3, hx403_4, hx403_5, hl403_0, hi403_0, hl403_1, hi403_1, hl403_2, hi403_2, hl403_3, hi403_3, hl403_4, hi403_4, hl403_5, hi403_5⟩ := at_T44 HR0_13.out x6_3 p403 q403
           cases e403
           replace hx403_0 := (HB.out.cell (World.block_lt_of_cell? w _ hx403_0)).trans hx403_0
           replace hx403_1 := (HB.out.cell (World.block_lt_of_cell? w _ hx403_1)).trans hx403_1
           replace hx403_2 := (HB.out.cell (World.block_lt_of_cell? w _ hx403_2)).trans hx403_2
           replace hx403_3 := (HB.out.cell (World.block_lt_of_cell? w _ hx403_3)).trans hx403_3
           replace hx403_4 := (HB.out.cell (World.block_lt_of_cell? w _ hx403_4)).trans hx403_4
           replace hx403_5 := (HB.out.cell (World.block_lt_of_cell? w _ hx403_5)).trans hx403_5
           have HR403_0 := am_ hi403_0
           have HC403_0 := am_ hl403_0
           clear hi403_0 hl403_0
           have HR403_1 := am_ hi403_1
           have HC403_1 := am_ hl403_1
           clear hi403_1 hl403_1
           have HR403_2 := am_ hi403_2
           have HC403_2 := am_ hl403_2
           clear hi403_2 hl403_2
           have HR403_3 := am_ hi403_3
           have HC403_3 := am_ hl403_3
           clear hi403_3 hl403_3
           have HR403_4 := am_ hi403_4
           have HC403_4 := am_ hl403_4
           clear hi403_4 hl403_4
           have HR403_5 := am_ hi403_5
           have HC403_5 := am_ hl403_5
           clear hi403_5 hl403_5
           replace p403 := eq_true p403
           replace q403 := eq_true q403
           go_upto_region 12 with (first | ((with_reducible refine gate_load (t := 28) (x := .tmp 2) rfl ?_); refine lrg_ 28 (.tmp 2) gb401 28 (by exact BK401.out) Try.underlying28 ?_) | ((with_reducible refine gate_dst (N := 7) rfl ?_); (try (refine gate_guard (by rfl) ?_; dsimp only)); refine bxe_ 7 44 #[.slice none 0 0, .slice none 0 0, .slice none 0 0, .slice none 0 0, .slice none 0 0, .slice none 0 0] ?_; intro gb404 hg w23 hbox hb; have BK404 := am_ (hbox); have GW404 := gwk_ HB hg; have GE404 := GW404; replace HB := bst_ HB hb; have NB401_404 := nbk_ BK401 hg; have NB404_401 := nbs_ NB401_404; replace BK401 := bkb_ BK401 hb; clear hb hbox hg) | ((with_reducible refine gate_store (t := 44) (p := 7) rfl ?_); refine row_store_event (t := 44) (p := 7) (v := ?vo_w24) ?hgd ?ho ?hn gb404 #[.slice A403_0 ((rd_T44 l0_13 x6_3).f0).length c403_0, .slice A403_1 ((rd_T44 l0_13 x6_3).f1).length c403_1, .slice A403_2 ((rd_T44 l0_13 x6_3).f2).length c403_2, .slice A403_3 ((rd_T44 l0_13 x6_3).f3).length c403_3, .slice A403_4 ((rd_T44 l0_13 x6_3).f4).length c403_4, .slice A403_5 ((rd_T44 l0_13 x6_3).f5).length c403_5] ?hx ?hy 44 #[.slice none 0 0, .slice none 0 0, .slice none 0 0, .slice none 0 0, .slice none 0 0, .slice none 0 0] ?hg ?hi ?hold ?h1 ?_; (case hgd => rfl); (case ho => rfl); (case hn => rfl); (case hx => rfl); (case hy => rfl); (case hg => exact (by (with_reducible repeat (first | apply kn_ | apply kd_ | apply ka_)); exact BK404.out)); (case hi => kernel_rfl); (case hold => rfl); (case h1 => (first | kernel_rfl | simp [Value.oneCell'])); intro w24 hw; have n0_ : Aside0 (w24.heap[gb401]? = some (.cells #[.int .i64 a0_0, .int .i64 a0_1, .int .i64 a0_2, .int .i64 a0_3, .int .i64 a0_4, .int .i64 a0_5, .int .i64 a0_6, .int .i64 a0_7, .int .i64 a0_8, .int .i64 a0_9, .slice A0_10 l0_10.length c0_10, .slice A0_11 l0_11.length c0_11, .slice A0_12 l0_12.length c0_12, .slice (some ad403) l0_13.length c0_13] 28 (0, 0))) := ⟨(by rw [hw]; exact (by (with_reducible repeat (first | apply kn_ | apply kd_ | apply ka_)); refine blk_farc ?_ NB401_404.out; (with_reducible repeat (first | apply kn_ | apply kd_ | apply ka_)); exact BK401.out))⟩; have n1_ : Aside0 (w24.heap[gb404]? = some (.cells #[.slice A403_0 ((rd_T44 l0_13 x6_3).f0).length c403_0, .slice A403_1 ((rd_T44 l0_13 x6_3).f1).length c403_1, .slice A403_2 ((rd_T44 l0_13 x6_3).f2).length c403_2, .slice A403_3 ((rd_T44 l0_13 x6_3).f3).length c403_3, .slice A403_4 ((rd_T44 l0_13 x6_3).f4).length c403_4, .slice A403_5 ((rd_T44 l0_13 x6_3).f5).length c403_5] 44 (0, 0))) := ⟨(by rw [hw]; exact (by (with_reducible repeat (first | apply kn_ | apply kd_ | apply ka_)); refine setRow_heap _ _ #[.slice none 0 0, .slice none 0 0, .slice none 0 0, .slice none 0 0, .slice none 0 0, .slice none 0 0] _ 44 (0, 0) ?_; (with_reducible repeat (first | apply kn_ | apply kd_ | apply ka_)); exact BK404.out))⟩; have n2_ : Aside0 (Below w.heap.size w w24) := ⟨(by rw [hw]; exact (by repeat (first | (with_reducible first | exact HB.out | refine below_setc ?_ GE404.out | apply below_alloc | apply pw_below_drewN | apply below_drew1 | refine bs_ ?_ GE401.out | refine bs_ ?_ GE404.out) | exact HB.out)))⟩; clear hw; clear BK401; clear BK404; clear HB; have BK401 := n0_; have BK404 := n1_; have HB := n2_; clear n0_ n1_ n2_))
           (try simp only [Act.put, zs_])
           go_cut [93] (fun v93 wc => ∃ (kq : Nat) (x93_20 : Bool), v93 = .bool x93_20 ∧ Aside0 (r33_Few.j3 kq x6_3 x93_20 a0_0 a0_1 a0_2 a0_3 a0_4 a0_5 a0_6 a0_7 a0_8 a0_9 l0_10 l0_11 l0_12 l0_13 ((rd_T44 l0_13 x6_3).f0) ((rd_T44 l0_13 x6_3).f1) ((rd_T44 l0_13 x6_3).f2) ((rd_T44 l0_13 x6_3).f3) ((rd_T44 l0_13 x6_3).f4) ((rd_T44 l0_13 x6_3).f5) = some r) ∧ Aside0 (kq ≤ k3) ∧ Aside0 (wc.heap[gb401]? = some (.cells #[.int .i64 a0_0, .int .i64 a0_1, .int .i64 a0_2, .int .i64 a0_3, .int .i64 a0_4, .int .i64 a0_5, .int .i64 a0_6, .int .i64 a0_7, .int .i64 a0_8, .int .i64 a0_9, (.slice A0_10 l0_10.length c0_10), (.slice A0_11 l0_11.length c0_11), (.slice A0_12 l0_12.length c0_12), (.slice (some ad403) l0_13.length c0_13)] 28 (0, 0))) ∧ Aside0 (wc.heap[gb404]? = some (.cells #[(.slice A403_0 ((rd_T44 l0_13 x6_3).f0).length c403_0), (.slice A403_1 ((rd_T44 l0_13 x6_3).f1).length c403_1), (.slice A403_2 ((rd_T44 l0_13 x6_3).f2).length c403_2), (.slice A403_3 ((rd_T44 l0_13 x6_3).f3).length c403_3), (.slice A403_4 ((rd_T44 l0_13 x6_3).f4).length c403_4), (.slice A403_5 ((rd_T44 l0_13 x6_3).f5).length c403_5)] 44 (0, 0))) ∧ Aside0 (Below w.heap.size w wc))
           case first =>
            have H := HC21.out
            clear HC21
            by_cases c25 : (((rd_T44 l0_13 x6_3).f0).length : Int) > 100
            ·rw [if_pos c25] at H
             have c25b0 : decide (100 < (((rd_T44 l0_13 x6_3).f0).length : Int)) = true := decide_eq_true c25
             have c25b1 : decide (100 < ((rd_T44 l0_13 x6_3).f0).length) = true := decide_eq_true (by omega)
             clear c25
             (first | rw [c25b0] | (simp only [i64_w, i32_w]; rw [c25b0]) | skip)
             have H' := am_ H
             clear H
             have hnb26 := NB404_401.out
             have hnc26 := NB401_404.out
             have hcz27 := cells_6 BK404.out
             have hfz27 := frozen_6 BK404.out
             go_wp2
             go_meet
             case rel => exact ⟨_, (true), (by first | rfl | (simp; done) | (simp [*]; done)), H', ⟨by have := HJ2.out; have := HK2.out; have := HK3.out; first | omega | exact Nat.le_refl _⟩, ⟨by (with_reducible repeat (first | apply kn_ | apply kd_ | apply ka_)); exact BK401.out⟩, ⟨by (with_reducible repeat (first | apply kn_ | apply kd_ | apply ka_)); exact BK404.out⟩, ⟨by repeat (first | (with_reducible first | exact HB.out | apply ba_ | apply bn_ | apply bd_ | refine bs_ ?_ GE401.out | refine bs_ ?_ GE404.out) | exact HB.out)⟩⟩
            ·rw [if_neg c25] at H
             have c25b0 : decide (100 < (((rd_T44 l0_13 x6_3).f0).length : Int)) = false := decide_eq_false c25
             have c25b1 : decide (100 < ((rd_T44 l0_13 x6_3).f0).length) = false := decide_eq_false (by omega)
             clear c25
             (first | rw [c25b0] | (simp only [i64_w, i32_w]; rw [c25b0]) | skip)
             by_cases c28 : (((rd_T44 l0_13 x6_3).f1).length : Int) > 400
             ·rw [if_pos c28] at H
              have c28b0 : decide (400 < (((rd_T44 l0_13 x6_3).f1).length : Int)) = true := decide_eq_true c28
              have c28b1 : decide (400 < ((rd_T44 l0_13 x6_3).f1).length) = true := decide_eq_true (by omega)
              clear c28
              have H' := am_ H
              clear H
              have hnb29 := NB404_401.out
              have hnc29 := NB401_404.out
              have hcz30 := cells_6 BK404.out
              have hfz30 := frozen_6 BK404.out
              go_wp2
              go_meet
              case rel => exact ⟨_, (true), (by first | rfl | (simp; done) | (simp [*]; done)), H', ⟨by have := HJ2.out; have := HK2.out; have := HK3.out; first | omega | exact Nat.le_refl _⟩, ⟨by (with_reducible repeat (first | apply kn_ | apply kd_ | apply ka_)); exact BK401.out⟩, ⟨by (with_reducible repeat (first | apply kn_ | apply kd_ | apply ka_)); exact BK404.out⟩, ⟨by repeat (first | (with_reducible first | exact HB.out | apply ba_ | apply bn_ | apply bd_ | refine bs_ ?_ GE401.out | refine bs_ ?_ GE404.out) | exact HB.out)⟩⟩
             ·rw [if_neg c28] at H
              have c28b0 : decide (400 < (((rd_T44 l0_13 x6_3).f1).length : Int)) = false := decide_eq_false c28
              have c28b1 : decide (400 < ((rd_T44 l0_13 x6_3).f1).length) = false := decide_eq_false (by omega)
              clear c28
              by_cases c31 : (((rd_T44 l0_13 x6_3).f2).length : Int) > 100
              ·rw [if_pos c31] at H
               have c31b0 : decide (100 < (((rd_T44 l0_13 x6_3).f2).length : Int)) = true := decide_eq_true c31
               have c31b1 : decide (100 < ((rd_T44 l0_13 x6_3).f2).length) = true := decide_eq_true (by omega)
               clear c31
               have H' := am_ H
               clear H
               have hnb32 := NB404_401.out
               have hnc32 := NB401_404.out
               have hcz33 := cells_6 BK404.out
               have hfz33 := frozen_6 BK404.out
               go_wp2
               go_meet
               case rel => exact ⟨_, (true), (by first | rfl | (simp; done) | (simp [*]; done)), H', ⟨by have := HJ2.out; have := HK2.out; have := HK3.out; first | omega | exact Nat.le_refl _⟩, ⟨by (with_reducible repeat (first | apply kn_ | apply kd_ | apply ka_)); exact BK401.out⟩, ⟨by (with_reducible repeat (first | apply kn_ | apply kd_ | apply ka_)); exact BK404.out⟩, ⟨by repeat (first | (with_reducible first | exact HB.out | apply ba_ | apply bn_ | apply bd_ | refine bs_ ?_ GE401.out | refine bs_ ?_ GE404.out) | exact HB.out)⟩⟩
              ·rw [if_neg c31] at H
               have c31b0 : decide (100 < (((rd_T44 l0_13 x6_3).f2).length : Int)) = false := decide_eq_false c31
               have c31b1 : decide (100 < ((rd_T44 l0_13 x6_3).f2).length) = false := decide_eq_false (by omega)
               clear c31
               by_cases c34 : (((rd_T44 l0_13 x6_3).f3).length : Int) > 100
               ·rw [if_pos c34] at H
                have c34b0 : decide (100 < (((rd_T44 l0_13 x6_3).f3).length : Int)) = true := decide_eq_true c34
                have c34b1 : decide (100 < ((rd_T44 l0_13 x6_3).f3).length) = true := decide_eq_true (by omega)
                clear c34
                have H' := am_ H
                clear H
                have hnb35 := NB404_401.out
                have hnc35 := NB401_404.out
                have hcz36 := cells_6 BK404.out
                have hfz36 := frozen_6 BK404.out
                go_wp2
                go_meet
                case rel => exact ⟨_, (true), (by first | rfl | (simp; done) | (simp [*]; done)), H', ⟨by have := HJ2.out; have := HK2.out; have := HK3.out; first | omega | exact Nat.le_refl _⟩, ⟨by (with_reducible repeat (first | apply kn_ | apply kd_ | apply ka_)); exact BK401.out⟩, ⟨by (with_reducible repeat (first | apply kn_ | apply kd_ | apply ka_)); exact BK404.out⟩, ⟨by repeat (first | (with_reducible first | exact HB.out | apply ba_ | apply bn_ | apply bd_ | refine bs_ ?_ GE401.out | refine bs_ ?_ GE404.out) | exact HB.out)⟩⟩
               ·rw [if_neg c34] at H
                have c34b0 : decide (100 < (((rd_T44 l0_13 x6_3).f3).length : Int)) = false := decide_eq_false c34
                have c34b1 : decide (100 < ((rd_T44 l0_13 x6_3).f3).length) = false := decide_eq_false (by omega)
                clear c34
                by_cases c37 : (((rd_T44 l0_13 x6_3).f4).length : Int) > 100
                ·rw [if_pos c37] at H
                 have c37b0 : decide (100 < (((rd_T44 l0_13 x6_3).f4).length : Int)) = true := decide_eq_true c37
                 have c37b1 : decide (100 < ((rd_T44 l0_13 x6_3).f4).length) = true := decide_eq_true (by omega)
                 clear c37
                 have H' := am_ H
                 clear H
                 have hnb38 := NB404_401.out
                 have hnc38 := NB401_404.out
                 have hcz39 := cells_6 BK404.out
                 have hfz39 := frozen_6 BK404.out
                 go_wp2
                 go_meet
                 case rel => exact ⟨_, (true), (by first | rfl | (simp; done) | (simp [*]; done)), H', ⟨by have := HJ2.out; have := HK2.out; have := HK3.out; first | omega | exact Nat.le_refl _⟩, ⟨by (with_reducible repeat (first | apply kn_ | apply kd_ | apply ka_)); exact BK401.out⟩, ⟨by (with_reducible repeat (first | apply kn_ | apply kd_ | apply ka_)); exact BK404.out⟩, ⟨by repeat (first | (with_reducible first | exact HB.out | apply ba_ | apply bn_ | apply bd_ | refine bs_ ?_ GE401.out | refine bs_ ?_ GE404.out) | exact HB.out)⟩⟩
                ·rw [if_neg c37] at H
                 have c37b0 : decide (100 < (((rd_T44 l0_13 x6_3).f4).length : Int)) = false := decide_eq_false c37
                 have c37b1 : decide (100 < ((rd_T44 l0_13 x6_3).f4).length) = false := decide_eq_false (by omega)
                 clear c37
                 have H' := am_ H
                 clear H
                 have hnb40 := NB404_401.out
                 have hnc40 := NB401_404.out
                 have hcz41 := cells_6 BK404.out
                 have hfz41 := frozen_6 BK404.out
                 go_wp2
                 go_meet
                 case rel => exact ⟨_, (decide ((((rd_T44 l0_13 x6_3).f5).length : Int) > 100)), (by first | rfl | (simp; done) | (simp [*]; done)), H', ⟨by have := HJ2.out; have := HK2.out; have := HK3.out; first | omega | exact Nat.le_refl _⟩, ⟨by (with_reducible repeat (first | apply kn_ | apply kd_ | apply ka_)); exact BK401.out⟩, ⟨by (with_reducible repeat (first | apply kn_ | apply kd_ | apply ka_)); exact BK404.out⟩, ⟨by repeat (first | (with_reducible first | exact HB.out | apply ba_ | apply bn_ | apply bd_ | refine bs_ ?_ GE401.out | refine bs_ ?_ GE404.out) | exact HB.out)⟩⟩
           case rest =>
            clear HC21
            try clear c1
            try clear c2
            try clear p2
            try clear c3
            try clear c4
            try clear p4
            try clear q4
            try clear hx4
            try clear c5
            try clear c5b0
            try clear p6
            try clear c7
            try clear c7b0
            try clear c7b1
            try clear c9
            try clear c9b0
            try clear c9b1
            try clear c10
            try clear c12
            try clear c13
            try clear c13b0
            try clear c14
            try clear c14b0
            try clear c15
            try clear c15b0
            try clear c15b1
            try clear c19
            try clear c19b0
            try clear c20
            try clear c20b0
            try clear c25
            try clear c25b0
            try clear c25b1
            try clear c26
            try clear c28
            try clear c28b0
            try clear c28b1
            try clear c29
            try clear c31
            try clear c31b0
            try clear c31b1
            try clear c32
            try clear c34
            try clear c34b0
            try clear c34b1
            try clear c35
            try clear c37
            try clear c37b0
            try clear c37b1
            try clear c38
            try clear c40
            try clear p40
            try clear q40
            try clear hx40
            try clear hcz10
            try clear hcz11
            try clear hcz16
            try clear hcz17
            try clear hcz18
            try clear hcz22
            try clear hcz27
            try clear hcz30
            try clear hcz33
            try clear hcz36
            try clear hcz39
            try clear hcz41
            try clear hcz6
            try clear hcz8
            try clear hfz10
            try clear hfz11
            try clear hfz16
            try clear hfz17
            try clear hfz18
            try clear hfz22
            try clear hfz27
            try clear hfz30
            try clear hfz33
            try clear hfz36
            try clear hfz39
            try clear hfz41
            try clear hfz6
            try clear hfz8
            try clear hx402_0
            try clear hx403_0
            try clear hx403_1
            try clear hx403_2
            try clear hx403_3
            try clear hx403_4
            try clear hx403_5
            try clear p2
            try clear p4
            try clear p402
            try clear p403
            try clear p6
            try clear q4
            try clear q402
            try clear q403
            obtain ⟨kq, x93_20, rfl, HA, HJ20, BK401, BK404, HB⟩ := hcut
            cases kq with
            | zero => exact absurd HA.out (by simp [r33_Few.j3])
            | succ kj20 =>
             have H := HA.out
             clear HA
             simp only [r33_Few.j3] at H
             by_cases c42 : x93_20 = true
             ·subst c42
              rw [if_pos rfl] at H
              obtain rfl := Option.some.inj H
              go_wp2
              go_ret
              exact ⟨by first | rfl | (simp [*] <;> rfl), by repeat (first | (with_reducible first | exact HB.out | apply ba_ | apply bn_ | apply bd_ | refine bs_ ?_ GE401.out | refine bs_ ?_ GE404.out) | exact HB.out)⟩
             ·replace c42 := Bool.eq_false_iff.mpr c42
              subst c42
              rw [if_neg (show ¬ (false = true) by decide)] at H
              have H' := am_ H
              clear H
              have hnb43 := NB404_401.out
              have hnc43 := NB401_404.out
              have hcz44 := cells_6 BK404.out
              have hfz44 := frozen_6 BK404.out
              go_wp2
              go_loopg [97] kj20 (fun kq v97 w' => ∃ (x97_5 : Int), v97 = .int .i64 x97_5 ∧ Aside0 (r33_Few.l2 kq x6_3 ((rd_T44 l0_13 x6_3).f3) (((rd_T44 l0_13 x6_3).f3).length : Int) x97_5 a0_0 a0_1 a0_2 a0_3 a0_4 a0_5 a0_6 a0_7 a0_8 a0_9 l0_10 l0_11 l0_12 l0_13 = some r) ∧ Aside0 (kq ≤ kj20) ∧ Aside0 (w'.heap[gb401]? = some (.cells #[.int .i64 a0_0, .int .i64 a0_1, .int .i64 a0_2, .int .i64 a0_3, .int .i64 a0_4, .int .i64 a0_5, .int .i64 a0_6, .int .i64 a0_7, .int .i64 a0_8, .int .i64 a0_9, (.slice A0_10 l0_10.length c0_10), (.slice A0_11 l0_11.length c0_11), (.slice A0_12 l0_12.length c0_12), (.slice (some ad403) l0_13.length c0_13)] 28 (0, 0))) ∧ Aside0 (w'.heap[gb404]? = some (.cells #[(.slice A403_0 ((rd_T44 l0_13 x6_3).f0).length c403_0), (.slice A403_1 ((rd_T44 l0_13 x6_3).f1).length c403_1), (.slice A403_2 ((rd_T44 l0_13 x6_3).f2).length c403_2), (.slice A403_3 ((rd_T44 l0_13 x6_3).f3).length c403_3), (.slice A403_4 ((rd_T44 l0_13 x6_3).f4).length c403_4), (.slice A403_5 ((rd_T44 l0_13 x6_3).f5).length c403_5)] 44 (0, 0))) ∧ Aside0 (Below w.heap.size w w'))
              case atStart => exact ⟨(0), (by first | rfl | (simp; done) | (simp [*]; done)), H', ⟨Nat.le_refl _⟩, ⟨by (with_reducible repeat (first | apply kn_ | apply kd_ | apply ka_)); exact BK401.out⟩, ⟨by (with_reducible repeat (first | apply kn_ | apply kd_ | apply ka_)); exact BK404.out⟩, ⟨by repeat (first | (with_reducible first | exact HB.out | apply ba_ | apply bn_ | apply bd_ | refine bs_ ?_ GE401.out | refine bs_ ?_ GE404.out) | exact HB.out)⟩⟩
              case round =>
               clear H'
               try clear c1
               try clear c2
               try clear p2
               try clear c3
               try clear c4
               try clear p4
               try clear q4
               try clear hx4
               try clear c5
               try clear c5b0
               try clear p6
               try clear c7
               try clear c7b0
               try clear c7b1
               try clear c9
               try clear c9b0
               try clear c9b1
               try clear c10
               try clear c12
               try clear c13
               try clear c13b0
               try clear c14
               try clear c14b0
               try clear c15
               try clear c15b0
               try clear c15b1
               try clear c19
               try clear c19b0
               try clear c20
               try clear c20b0
               try clear c25
               try clear c25b0
               try clear c25b1
               try clear c26
               try clear c28
               try clear c28b0
               try clear c28b1
               try clear c29
               try clear c31
               try clear c31b0
               try clear c31b1
               try clear c32
               try clear c34
               try clear c34b0
               try clear c34b1
               try clear c35
               try clear c37
               try clear c37b0
               try clear c37b1
               try clear c38
               try clear c40
               try clear p40
               try clear q40
               try clear hx40
               try clear c42
               try clear c43
               try clear hcz10
               try clear hcz11
               try clear hcz16
               try clear hcz17
               try clear hcz18
               try clear hcz22
               try clear hcz27
               try clear hcz30
               try clear hcz33
               try clear hcz36
               try clear hcz39
               try clear hcz41
               try clear hcz44
               try clear hcz6
               try clear hcz8
               try clear hfz10
               try clear hfz11
               try clear hfz16
               try clear hfz17
               try clear hfz18
               try clear hfz22
               try clear hfz27
               try clear hfz30
               try clear hfz33
               try clear hfz36
               try clear hfz39
               try clear hfz41
               try clear hfz44
               try clear hfz6
               try clear hfz8
               try clear hx402_0
               try clear hx403_0
               try clear hx403_1
               try clear hx403_2
               try clear hx403_3
               try clear hx403_4
               try clear hx403_5
               try clear p2
               try clear p4
               try clear p40
               try clear p402
               try clear p403
               try clear p6
               try clear q4
               try clear q40
               try clear q402
               try clear q403
               obtain ⟨x97_5, rfl, HA, HK5, BK401, BK404, HB⟩ := hrel
               cases gk with
               | zero => exact absurd HA.out (by simp [r33_Few.l2])
               | succ k5 =>
                have H := HA.out
                clear HA
                simp only [r33_Few.l2] at H
                by_cases c45 : x97_5 < (((rd_T44 l0_13 x6_3).f3).length : Int)
                ·rw [if_pos c45] at H
                 have c45b0 : decide (x97_5 < (((rd_T44 l0_13 x6_3).f3).length : Int)) = true := decide_eq_true c45
                 clear c45
                 by_cases c46 : 0 ≤ x97_5
                 ·rw [if_pos c46] at H
                  have c46b0 : decide (0 ≤ x97_5) = true := decide_eq_true c46
                  clear c46
                  by_cases c47 : x97_5 < (((rd_T44 l0_13 x6_3).f3).length : Int)
                  ·rw [if_pos c47] at H
                   have c47b0 : decide (x97_5 < (((rd_T44 l0_13 x6_3).f3).length : Int)) = true := decide_eq_true c47
                   clear c47
                   by_cases c48 : (((rd_T48 ((rd_T44 l0_13 x6_3).f3) x97_5).f1).size : Int) > 16000
                   ·rw [if_pos c48] at H
                    have c48b0 : decide (16000 < (((rd_T48 ((rd_T44 l0_13 x6_3).f3) x97_5).f1).size : Int)) = true := decide_eq_true c48
                    have c48b1 : decide (16000 < ((rd_T48 ((rd_T44 l0_13 x6_3).f3) x97_5).f1).size) = true := decide_eq_true (by omega)
                    clear c48
                    obtain rfl := Option.some.inj H
                    have p405 : 0 ≤ (x97_5 : Int) := of_decide_eq_true (by first | (with_reducible assumption) | assumption)
                    have q405 : x97_5 < (((rd_T44 l0_13 x6_3).f3).length : Int) := of_decide_eq_true (by first | (with_reducible assumption) | assumption)
                    obtain ⟨ad405, e405, hx405_0, hx405_1⟩ := at_T48 HR403_3.out x97_5 p405 q405
                    cases e405
                    replace hx405_0 := (HB.out.cell (World.block_lt_of_cell? w _ hx405_0)).trans hx405_0
                    replace hx405_1 := (HB.out.cell (World.block_lt_of_cell? w _ hx405_1)).trans hx405_1
                    replace p405 := eq_true p405
                    replace q405 := eq_true q405
                    go_wp2_with (first | ((with_reducible refine gate_load (t := 28) (x := .tmp 2) rfl ?_); refine lrg_ 28 (.tmp 2) gb401 28 (by exact BK401.out) Try.underlying28 ?_) | ((with_reducible refine gate_dst (N := 9) rfl ?_); (try (refine gate_guard (by rfl) ?_; dsimp only)); refine bxe_ 9 48 #[.int .i64 0, .string (⟨#[]⟩ : ByteArray)] ?_; intro gb406 hg w49 hbox hb; have BK406 := am_ (hbox); have GW406 := gwk_ HB hg; have GE406 := GW406; replace HB := bst_ HB hb; have NB401_406 := nbk_ BK401 hg; have NB406_401 := nbs_ NB401_406; replace BK401 := bkb_ BK401 hb; have NB404_406 := nbk_ BK404 hg; have NB406_404 := nbs_ NB404_406; replace BK404 := bkb_ BK404 hb; clear hb hbox hg; have hnb50 := NB406_401.out; have hnc50 := NB401_406.out; have hnb51 := NB406_404.out; have hnc51 := NB404_406.out; obtain ⟨hcz52_0, hcz52_1⟩ := cells_2 BK406.out; obtain ⟨hfz52_0, hfz52_1⟩ := frozen_2 BK406.out))
                    go_ret
                    exact ⟨by first | rfl | (simp [*] <;> rfl), by repeat (first | (with_reducible first | exact HB.out | apply ba_ | apply bn_ | apply bd_ | refine bs_ ?_ GE401.out | refine bs_ ?_ GE404.out | refine bs_ ?_ GE406.out) | exact HB.out)⟩
                   ·rw [if_neg c48] at H
                    have c48b0 : decide (16000 < (((rd_T48 ((rd_T44 l0_13 x6_3).f3) x97_5).f1).size : Int)) = false := decide_eq_false c48
                    have c48b1 : decide (16000 < ((rd_T48 ((rd_T44 l0_13 x6_3).f3) x97_5).f1).size) = false := decide_eq_false (by omega)
                    clear c48
                    have H' := am_ H
                    clear H
                    have p405 : 0 ≤ (x97_5 : Int) := of_decide_eq_true (by first | (with_reducible assumption) | assumption)
                    have q405 : x97_5 < (((rd_T44 l0_13 x6_3).f3).length : Int) := of_decide_eq_true (by first | (with_reducible assumption) | assumption)
                    obtain ⟨ad405, e405, hx405_0, hx405_1⟩ := at_T48 HR403_3.out x97_5 p405 q405
                    cases e405
                    replace hx405_0 := (HB.out.cell (World.block_lt_of_cell? w _ hx405_0)).trans hx405_0
                    replace hx405_1 := (HB.out.cell (World.block_lt_of_cell? w _ hx405_1)).trans hx405_1
                    replace p405 := eq_true p405
                    replace q405 := eq_true q405
                    go_wp2_with (first | ((with_reducible refine gate_load (t := 28) (x := .tmp 2) rfl ?_); refine lrg_ 28 (.tmp 2) gb401 28 (by exact BK401.out) Try.underlying28 ?_) | ((with_reducible refine gate_dst (N := 9) rfl ?_); (try (refine gate_guard (by rfl) ?_; dsimp only)); refine bxe_ 9 48 #[.int .i64 0, .string (⟨#[]⟩ : ByteArray)] ?_; intro gb406 hg w53 hbox hb; have BK406 := am_ (hbox); have GW406 := gwk_ HB hg; have GE406 := GW406; replace HB := bst_ HB hb; have NB401_406 := nbk_ BK401 hg; have NB406_401 := nbs_ NB401_406; replace BK401 := bkb_ BK401 hb; have NB404_406 := nbk_ BK404 hg; have NB406_404 := nbs_ NB404_406; replace BK404 := bkb_ BK404 hb; clear hb hbox hg; have hnb54 := NB406_401.out; have hnc54 := NB401_406.out; have hnb55 := NB406_404.out; have hnc55 := NB404_406.out; obtain ⟨hcz56_0, hcz56_1⟩ := cells_2 BK406.out; obtain ⟨hfz56_0, hfz56_1⟩ := frozen_2 BK406.out))
                    go_roundg k5
                    case measure => have := HJ2.out; have := HK2.out; have := HK3.out; have := HJ20.out; have := HK5.out; omega
                    case rel => exact ⟨(wrap64 (x97_5 + 1)), (by first | rfl | (simp; done) | (simp [*]; done)), H', ⟨by have := HJ2.out; have := HK2.out; have := HK3.out; have := HJ20.out; have := HK5.out; omega⟩, ⟨by (iterate 2 ((with_reducible repeat (first | apply kn_ | apply kd_ | apply ka_)); refine blk_far ?_ NB401_406.out _)); (with_reducible repeat (first | apply kn_ | apply kd_ | apply ka_)); exact BK401.out⟩, ⟨by (iterate 2 ((with_reducible repeat (first | apply kn_ | apply kd_ | apply ka_)); refine blk_far ?_ NB404_406.out _)); (with_reducible repeat (first | apply kn_ | apply kd_ | apply ka_)); exact BK404.out⟩, ⟨by repeat (first | (with_reducible first | exact HB.out | apply ba_ | apply bn_ | apply bd_ | refine bs_ ?_ GE401.out | refine bs_ ?_ GE404.out | refine bs_ ?_ GE406.out) | exact HB.out)⟩⟩
                  ·rw [if_neg c47] at H
                   exact absurd H (by simp)
                 ·rw [if_neg c46] at H
                  exact absurd H (by simp)
                ·rw [if_neg c45] at H
                 have c45b0 : decide (x97_5 < (((rd_T44 l0_13 x6_3).f3).length : Int)) = false := decide_eq_false c45
                 clear c45
                 have H' := am_ H
                 clear H
                 go_wp2
                 go_roundg k5
                 case measure => have := HJ2.out; have := HK2.out; have := HK3.out; have := HJ20.out; have := HK5.out; omega
                 case rel => exact ⟨(wrap64 (x6_3 + 1)), (by first | rfl | (simp; done) | (simp [*]; done)), H', ⟨by have := HJ2.out; have := HK2.out; have := HK3.out; have := HJ20.out; have := HK5.out; omega⟩, ⟨by (with_reducible repeat (first | apply kn_ | apply kd_ | apply ka_)); exact BK401.out⟩, ⟨by repeat (first | (with_reducible first | exact HB.out | apply ba_ | apply bn_ | apply bd_ | refine bs_ ?_ GE401.out | refine bs_ ?_ GE404.out) | exact HB.out)⟩⟩
          ·rw [if_neg c20] at H
           exact absurd H (by simp)
         ·rw [if_neg c19] at H
          have c19b0 : decide (x6_3 < (l0_13.length : Int)) = false := decide_eq_false c19
          clear c19
          obtain rfl := Option.some.inj H
          have hcz57 := cells_14 BK401.out
          have hfz57 := frozen_14 BK401.out
          go_wp2
          go_ret
          exact ⟨by first | rfl | (simp [*] <;> rfl), by repeat (first | (with_reducible first | exact HB.out | apply ba_ | apply bn_ | apply bd_ | refine bs_ ?_ GE401.out) | exact HB.out)⟩
end Go.Proofs.Ythdoghhmooodjaa.Gn
