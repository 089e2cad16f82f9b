import Derived.Test.YthdoghhmooodjaaZScriptRightGn0
import Derived.Test.YthdoghhmooodjaaZScriptRightGn1
import Derived.Test.YthdoghhmooodjaaZScriptRightGn27
import Derived.Test.YthdoghhmooodjaaZScriptRightGn28
import Derived.Test.YthdoghhmooodjaaZScriptRightGn34
namespace Go.Proofs.Ythdoghhmooodjaa.Gn
open Go.RowKit Go.Proofs.YthdoghhmooodjaaW.PrintWords Go.Proofs.YthdoghhmooodjaaW.PrintLast Go.Proofs.YthdoghhmooodjaaW.PrintMore
attribute [local go_sem] max2_int min2_int max_two min_two max_three min_three max_four min_four   -- for this text's walks alone
set_option linter.unusedVariables false
set_option linter.unusedSimpArgs false
mutual
def r33_Right.l0 : Nat → Int → Int → Int → Int → Int → Int → Int → Int → Int → Int → Int → List Int → List Int → List ByteArray → List (S44) → Option (Int)
 | 0, _, _, _, _, _, _, _, _, _, _, _, _, _, _, _ => none
 | k + 1, x3, x402000, x402001, x402002, x402003, x402004, x402005, x402006, x402007, x402008, x402009, x402010, x402011, x402012, x402013 => if x3 < (x402011.length : Int) then (if 0 ≤ x3 then ((r33_node.f x402000 x402001 x402002 x402003 x402004 x402005 x402006 x402007 x402008 x402009 x402010 (rd x402011 x3)).bind fun t405 => (if t405 = true then (if x3 ≤ (x402011.length : Int) then ((r14_In.f k (x402011.take (x3 : Int).toNat) (rd x402011 x3)).bind fun t408 => (if t408 = true then (some 7) else (r33_Right.l0 k (wrap64 (x3 + 1)) x402000 x402001 x402002 x402003 x402004 x402005 x402006 x402007 x402008 x402009 x402010 x402011 x402012 x402013))) else (none)) else (some 7))) else (none)) else (if (x402012.length : Int) > x402000 then (r33_Right.j1 k true x402000 x402001 x402002 x402003 x402004 x402005 x402006 x402007 x402008 x402009 x402010 x402011 x402012 x402013) else (r33_Right.j1 k (decide ((x402013.length : Int) > 2000)) x402000 x402001 x402002 x402003 x402004 x402005 x402006 x402007 x402008 x402009 x402010 x402011 x402012 x402013))
def r33_Right.j1 : Nat → Bool → Int → Int → Int → Int → Int → Int → Int → Int → Int → Int → List Int → List Int → List ByteArray → List (S44) → Option (Int)
 | 0, _, _, _, _, _, _, _, _, _, _, _, _, _, _, _ => none
 | k + 1, x54, x402000, x402001, x402002, x402003, x402004, x402005, x402006, x402007, x402008, x402009, x402010, x402011, x402012, x402013 => if x54 = true then (some 6) else (r33_Right.l1 k 0 x402000 x402001 x402002 x402003 x402004 x402005 x402006 x402007 x402008 x402009 x402010 x402011 x402012 x402013)
def r33_Right.l1 : Nat → Int → Int → Int → Int → Int → Int → Int → Int → Int → Int → Int → List Int → List Int → List ByteArray → List (S44) → Option (Int)
 | 0, _, _, _, _, _, _, _, _, _, _, _, _, _, _, _ => none
 | k + 1, x4, x402000, x402001, x402002, x402003, x402004, x402005, x402006, x402007, x402008, x402009, x402010, x402011, x402012, x402013 => if x4 < (x402012.length : Int) then (if 0 ≤ x4 then (if ((rdOf ByteArray.empty x402012 x4).size : Int) > 8000 then (some 6) else (r33_Right.l1 k (wrap64 (x4 + 1)) x402000 x402001 x402002 x402003 x402004 x402005 x402006 x402007 x402008 x402009 x402010 x402011 x402012 x402013)) else (none)) else (r33_Right.l2 k 0 x402000 x402001 x402002 x402003 x402004 x402005 x402006 x402007 x402008 x402009 x402010 x402011 x402012 x402013)
def r33_Right.l2 : Nat → Int → Int → Int → Int → Int → Int → Int → Int → Int → Int → Int → List Int → List Int → List ByteArray → List (S44) → Option (Int)
 | 0, _, _, _, _, _, _, _, _, _, _, _, _, _, _, _ => none
 | k + 1, x5, x402000, x402001, x402002, x402003, x402004, x402005, x402006, x402007, x402008, x402009, x402010, x402011, x402012, x402013 => if x5 < (x402013.length : Int) then (if 0 ≤ x5 then ((r33_tick.f k x402000 x402001 x402002 x402003 x402004 x402005 x402006 x402007 x402008 x402009 x402010 ((rd_T44 x402013 x5).f0) ((rd_T44 x402013 x5).f1) ((rd_T44 x402013 x5).f2) ((rd_T44 x402013 x5).f3) ((rd_T44 x402013 x5).f4) ((rd_T44 x402013 x5).f5)).bind fun t411 => (if t411 = 0 then (r33_Right.l2 k (wrap64 (x5 + 1)) x402000 x402001 x402002 x402003 x402004 x402005 x402006 x402007 x402008 x402009 x402010 x402011 x402012 x402013) else (some t411))) else (none)) else (some 0)
end
def r33_Right.f (k : Nat) (a0_0 a0_1 a0_2 a0_3 a0_4 a0_5 a0_6 a0_7 a0_8 a0_9 : Int) (l0_10 l0_11 : List Int) (l0_12 : List ByteArray) (l0_13 : List (S44)) : Option (Int) := (r04_Right.f k a0_0 a0_1 a0_2 a0_3 a0_4 a0_5 a0_6 a0_7 a0_8 a0_9 l0_10).bind fun t402 => (if t402 = 0 then (r33_Right.l0 k 0 a0_0 a0_1 a0_2 a0_3 a0_4 a0_5 a0_6 a0_7 a0_8 a0_9 l0_10 l0_11 l0_12 l0_13) else ((r04_Right.f k a0_0 a0_1 a0_2 a0_3 a0_4 a0_5 a0_6 a0_7 a0_8 a0_9 l0_10).bind fun t403 => (some t403)))
def r33_Right.T6 : Bool × List (List Nat × List Nat) := (true, [([], []), ([0], [0]), ([], []), ([2], [2]), ([], []), ([3, 4], [3, 4]), ([5], [5]), ([1, 6], [1, 6]), ([7], [7]), ([8, 7], [8]), ([9], [9]), ([10, 9], [9, 10]), ([9], [9]), ([11, 12, 9], [9, 11, 12]), ([9], [9]), ([14, 9], [9, 14]), ([9], [9]), ([15, 16, 9], [9, 15, 16]), ([17, 9], [9, 17]), ([13, 18, 9, 9], [9, 13, 18]), ([9, 19], [9, 19])])
def r33_Right.B6 : List Nat := [0, 1, 0, 4, 0, 28, 60, 127, 255, 511, 1023, 2047, 1023, 8191, 1023, 17407, 1023, 115711, 246783, 524287, 1048575]
theorem r33_Right.tab6 : rtab .any (opsOf Try.f13 6) = r33_Right.T6 := by kernel_rfl
theorem r33_Right.bits6 : waitsOk r33_Right.T6.2 r33_Right.B6 = true := by kernel_rfl
def r33_Right.T18 : Bool × List (List Nat × List Nat) := (true, [([], []), ([0], [0]), ([], []), ([2], [2]), ([], []), ([3, 4], [3, 4]), ([5], [5]), ([1, 6], [1, 6]), ([7, 7, 0, 1, 2, 3, 4, 5, 6, 7], [7])])
def r33_Right.B18 : List Nat := [0, 1, 0, 4, 0, 28, 60, 127, 255]
theorem r33_Right.tab18 : rtab .any (opsOf Try.f13 18) = r33_Right.T18 := by kernel_rfl
theorem r33_Right.bits18 : waitsOk r33_Right.T18.2 r33_Right.B18 = true := by kernel_rfl
set_option maxHeartbeats 8000000 in
set_option maxRecDepth 100000 in
theorem r33_Right.calls (k : Nat) (a0_0 a0_1 a0_2 a0_3 a0_4 a0_5 a0_6 a0_7 a0_8 a0_9 : Int) (A0_10 : Option Addr) (c0_10 : Nat) (l0_10 : List Int) (A0_11 : Option Addr) (c0_11 : Nat) (l0_11 : List Int) (A0_12 : Option Addr) (c0_12 : Nat) (l0_12 : List ByteArray) (A0_13 : Option Addr) (c0_13 : Nat) (l0_13 : List (S44)) (r : Int) (w : World) (hr0_10 : Kd.C (Kd.int .i64) w A0_10 l0_10.length l0_10) (hc0_10 : l0_10.length ≤ c0_10) (hr0_11 : Kd.C (Kd.int .i64) w A0_11 l0_11.length l0_11) (hc0_11 : l0_11.length ≤ c0_11) (hr0_12 : Kd.C Kd.string w A0_12 l0_12.length l0_12) (hc0_12 : l0_12.length ≤ c0_12) (hr0_13 : Kd.C k44 w A0_13 l0_13.length l0_13) (hc0_13 : l0_13.length ≤ c0_13) (h : r33_Right.f k a0_0 a0_1 a0_2 a0_3 a0_4 a0_5 a0_6 a0_7 a0_8 a0_9 l0_10 l0_11 l0_12 l0_13 = some r) :
  Calls Try.prog 13 #[.agg #[.int .i64 a0_0, .int .i64 a0_1, .int .i64 a0_2, .int .i64 a0_3, .int .i64 a0_4, .int .i64 a0_5, .int .i64 a0_6, .int .i64 a0_7, .int .i64 a0_8, .int .i64 a0_9, .slice A0_10 l0_10.length c0_10, .slice A0_11 l0_11.length c0_11, .slice A0_12 l0_12.length c0_12, .slice A0_13 l0_13.length c0_13]] w fun e w' => e = .returned (.int .i64 r) ∧ Below w.heap.size w w' := by
 have hu24 := Try.underlying24
 have hu44 := Try.underlying44
 have HR0_10 := am_ hr0_10
 have HC0_10 := am_ hc0_10
 clear hr0_10 hc0_10
 have HR0_11 := am_ hr0_11
 have HC0_11 := am_ hc0_11
 clear hr0_11 hc0_11
 have HR0_12 := am_ hr0_12
 have HC0_12 := am_ hc0_12
 clear hr0_12 hc0_12
 have HR0_13 := am_ hr0_13
 have HC0_13 := am_ hc0_13
 clear hr0_13 hc0_13
 have HB := am_ (Below.refl w.heap.size w)
 have H := h
 unfold r33_Right.f at H
 clear h
 obtain ⟨t402, A2, H⟩ := bes_ H
 try dsimp only at H
 by_cases c3 : t402 = 0
 ·rw [if_pos c3] at H
  have c3b0 : (t402 == 0) = true := beq_iff_eq.mpr c3
  have c3b1 : (t402 != 0) = false := bne_eq_false_iff_eq.mpr c3
  clear c3
  have H' := am_ H
  clear H
  go_enter Try.func13, Try.ntmps13
  go_wp2_with (first | ((with_reducible refine gate_load (t := 28) (x := .tmp 1) rfl ?_); refine lrg_ 28 (.tmp 1) gb401 28 (by exact BK401.out) Try.underlying28 ?_) | ((with_reducible refine gate_dst (N := 1) rfl ?_); (try (refine gate_guard (by rfl) ?_; dsimp only)); refine bxe_ 1 28 #[.int .i64 a0_0, .int .i64 a0_1, .int .i64 a0_2, .int .i64 a0_3, .int .i64 a0_4, .int .i64 a0_5, .int .i64 a0_6, .int .i64 a0_7, .int .i64 a0_8, .int .i64 a0_9, .slice A0_10 l0_10.length c0_10, .slice A0_11 l0_11.length c0_11, .slice A0_12 l0_12.length c0_12, .slice A0_13 l0_13.length c0_13] ?_; intro gb401 hg w4 hbox hb; have BK401 := am_ (hbox); have GW401 := gwk_ HB hg; have GE401 := GW401; replace HB := bst_ HB hb; clear hb hbox hg; have hall1_ := cells_14 BK401.out; have hall2_ := frozen_14 BK401.out) | ((with_reducible refine gate_callee (f := 42) rfl ?_); refine gom_ (some 9) Try.func42 (r04_Right.calls k a0_0 a0_1 a0_2 a0_3 a0_4 a0_5 a0_6 a0_7 a0_8 a0_9 _ _ l0_10 _ _ (Kd.C_below HR0_10.out HB.out) HC0_10.out A2.out) ?_; rintro e w6 ⟨rfl, hb⟩; refine ⟨_, rfl, ?_⟩; replace BK401 := bkb_ BK401 hb; replace HB := bst_ HB hb; (try clear hb)))
  go_loopg [3] k (fun kq v3 w' => ∃ (x3_1 : Int), v3 = .int .i64 x3_1 ∧ Aside0 (r33_Right.l0 kq x3_1 a0_0 a0_1 a0_2 a0_3 a0_4 a0_5 a0_6 a0_7 a0_8 a0_9 l0_10 l0_11 l0_12 l0_13 = some r) ∧ Aside0 (kq ≤ k) ∧ Aside0 (w'.heap[gb401]? = some (.cells #[.int .i64 a0_0, .int .i64 a0_1, .int .i64 a0_2, .int .i64 a0_3, .int .i64 a0_4, .int .i64 a0_5, .int .i64 a0_6, .int .i64 a0_7, .int .i64 a0_8, .int .i64 a0_9, (.slice A0_10 l0_10.length c0_10), (.slice A0_11 l0_11.length c0_11), (.slice A0_12 l0_12.length c0_12), (.slice A0_13 l0_13.length c0_13)] 28 (0, 0))) ∧ Aside0 (Below w.heap.size w w'))
  case atStart => exact ⟨(0), (by first | rfl | (simp; done) | (simp [*]; done)), H', ⟨Nat.le_refl _⟩, ⟨by (with_reducible repeat (first | apply kn_ | apply kd_ | apply ka_)); exact BK401.out⟩, ⟨by repeat (first | (with_reducible first | exact HB.out | apply ba_ | apply bn_ | apply bd_ | refine bs_ ?_ GE401.out) | exact HB.out)⟩⟩
  case round =>
   clear H'
   try clear c1
   try clear p2
   try clear c3
   try clear c3b0
   try clear c3b1
   try clear c4
   try clear hcz5_0 hcz5_1 hcz5_2 hcz5_3 hcz5_4 hcz5_5 hcz5_6 hcz5_7 hcz5_8 hcz5_9 hcz5_10 hcz5_11 hcz5_12 hcz5_13
   try clear hfz5_0 hfz5_1 hfz5_2 hfz5_3 hfz5_4 hfz5_5 hfz5_6 hfz5_7 hfz5_8 hfz5_9 hfz5_10 hfz5_11 hfz5_12 hfz5_13
   obtain ⟨x3_1, rfl, HA, HK1, BK401, HB⟩ := hrel
   cases gk with
   | zero => exact absurd HA.out (by simp [r33_Right.l0])
   | succ k1 =>
    have H := HA.out
    clear HA
    simp only [r33_Right.l0] at H
    by_cases c7 : x3_1 < (l0_11.length : Int)
    ·rw [if_pos c7] at H
     have c7b0 : decide (x3_1 < (l0_11.length : Int)) = true := decide_eq_true c7
     clear c7
     by_cases c8 : 0 ≤ x3_1
     ·rw [if_pos c8] at H
      have c8b0 : decide (0 ≤ x3_1) = true := decide_eq_true c8
      clear c8
      obtain ⟨t405, A9, H⟩ := bes_ H
      try dsimp only at H
      by_cases c10 : t405 = true
      subst c10
      rw [if_pos rfl] at H
      have c11b0 := eq_true (of_decide_eq_true (by first | (with_reducible assumption) | assumption) : 0 ≤ x3_1)
      by_cases c12 : x3_1 ≤ (l0_11.length : Int)
      rw [if_pos c12] at H
      have c12b0 := eq_true c12
      have c12b1 : decide (x3_1 ≤ (l0_11.length : Int)) = true := decide_eq_true c12
      clear c12
      obtain ⟨t408, A13, H⟩ := bes_ H
      try dsimp only at H
      by_cases c14 : t408 = true
      subst c14
      rw [if_pos rfl] at H
      obtain rfl := Option.some.inj H
      rotate_left
      ·replace c14 := Bool.eq_false_iff.mpr c14
       subst c14
       rw [if_neg (show ¬ (false = true) by decide)] at H
       have H' := am_ H
       clear H
       have hcz19 := cells_14 BK401.out
       have hfz19 := frozen_14 BK401.out
       try go_wp2
       replace BK401 := am_ (blk_drew BK401.out)
       replace HB := am_ (below_drew1 HB.out)
       have p404 : 0 ≤ (x3_1 : Int) := of_decide_eq_true (by first | (with_reducible assumption) | assumption)
       have q404 : x3_1 < (l0_11.length : Int) := of_decide_eq_true (by first | (with_reducible assumption) | assumption)
       obtain ⟨ad404, e404, hx404_0⟩ := Kd.at_int HR0_11.out x3_1 p404 q404
       have hw404_0 := hx404_0
       cases e404
       replace hx404_0 := (HB.out.cell (World.block_lt_of_cell? w _ hx404_0)).trans hx404_0
       replace p404 := eq_true p404
       replace q404 := eq_true q404
       have p407 : 0 ≤ (x3_1 : Int) := of_decide_eq_true (by first | (with_reducible assumption) | assumption)
       have q407 : x3_1 < (l0_11.length : Int) := of_decide_eq_true (by first | (with_reducible assumption) | assumption)
       obtain ⟨ad407, e407, hx407_0⟩ := Kd.at_int HR0_11.out x3_1 p407 q407
       have hw407_0 := hx407_0
       obtain rfl : ad404 = ad407 := (by injection e407)
       replace hx407_0 := (HB.out.cell (World.block_lt_of_cell? w _ hx407_0)).trans hx407_0
       replace p407 := eq_true p407
       replace q407 := eq_true q407
       refine start_ (n := 21) (S := fun w' => ce_ w' gb401 0 (.int .i64 a0_0) ∧ ce_ w' gb401 1 (.int .i64 a0_1) ∧ ce_ w' gb401 2 (.int .i64 a0_2) ∧ ce_ w' gb401 3 (.int .i64 a0_3) ∧ ce_ w' gb401 4 (.int .i64 a0_4) ∧ ce_ w' gb401 5 (.int .i64 a0_5) ∧ ce_ w' gb401 6 (.int .i64 a0_6) ∧ ce_ w' gb401 7 (.int .i64 a0_7) ∧ ce_ w' gb401 8 (.int .i64 a0_8) ∧ ce_ w' gb401 9 (.int .i64 a0_9) ∧ ce_ w' gb401 10 (.slice A0_10 l0_10.length c0_10) ∧ ce_ w' gb401 11 (.slice (some ad404) l0_11.length c0_11) ∧ ce_ w' gb401 12 (.slice A0_12 l0_12.length c0_12) ∧ ce_ w' gb401 13 (.slice A0_13 l0_13.length c0_13) ∧ w'.cell? (ad404.add (x3_1).toNat) = some (.int .i64 (rd l0_11 x3_1)) ∧ w'.cell? (ad404.add (x3_1).toNat) = some (.int .i64 (rd l0_11 x3_1))) (ds := []) #[false, false, false, false, false, false, false, false, false, false, false, false, false, false, false, false, false, false, false, false, false] (by kernel_rfl) rfl rfl ⟨(blk_cell BK401.out 0).trans rfl, (blk_cell BK401.out 1).trans rfl, (blk_cell BK401.out 2).trans rfl, (blk_cell BK401.out 3).trans rfl, (blk_cell BK401.out 4).trans rfl, (blk_cell BK401.out 5).trans rfl, (blk_cell BK401.out 6).trans rfl, (blk_cell BK401.out 7).trans rfl, (blk_cell BK401.out 8).trans rfl, (blk_cell BK401.out 9).trans rfl, (blk_cell BK401.out 10).trans rfl, (blk_cell BK401.out 11).trans rfl, (blk_cell BK401.out 12).trans rfl, (blk_cell BK401.out 13).trans rfl, ((HB.out.cell (World.block_lt_of_cell? w _ hw404_0)).trans hw404_0), ((HB.out.cell (World.block_lt_of_cell? w _ hw407_0)).trans hw407_0)⟩ (fun hHeld => ?_); refine with_tabW r33_Right.tab6 r33_Right.bits6 (fun HT_ HW_ => ?_)
       generalize wr.drew = w20 at BK401 HB hx404_0 hx407_0 hHeld ⊢
       refine pur_ 0 (some 21) rfl rfl (any_of HT_.out (by kernel_rfl)) ?_
       refine pur_ 2 (some 23) rfl rfl (any_of HT_.out (by kernel_rfl)) ?_
       refine pur_ 4 (some 25) rfl rfl (any_of HT_.out (by kernel_rfl)) ?_
       refine tak_ 1 (some 22) rfl rfl (take_ofW HT_.out HW_.out (by kernel_rfl)) hHeld ?_ (by rintro w' ⟨s0, s1, s2, s3, s4, s5, s6, s7, s8, s9, s10, s11, s12, s13, s14, s15⟩; (first | (refine load_cells_14 (ty := 28) (x := .tmp 1) (g := gb401) ?hlo_ ?hx_ Try.underlying28 ?hd_ ?hi_ s0 s1 s2 s3 s4 s5 s6 s7 s8 s9 s10 s11 s12 s13; (case hlo_ => rfl); (case hx_ => rfl); (case hd_ => rfl); (case hi_ => kernel_rfl)) | (go_simp; with_reducible rfl)))
       refine tak_ 3 (some 24) rfl rfl (take_ofW HT_.out HW_.out (by kernel_rfl)) hHeld ?_ (by rintro w' ⟨s0, s1, s2, s3, s4, s5, s6, s7, s8, s9, s10, s11, s12, s13, s14, s15⟩; (first | (refine load_cells_14 (ty := 28) (x := .tmp 1) (g := gb401) ?hlo_ ?hx_ Try.underlying28 ?hd_ ?hi_ s0 s1 s2 s3 s4 s5 s6 s7 s8 s9 s10 s11 s12 s13; (case hlo_ => rfl); (case hx_ => rfl); (case hd_ => rfl); (case hi_ => kernel_rfl)) | (go_simp; with_reducible rfl)))
       refine pur_ 5 (some 26) rfl rfl (any_of HT_.out (by kernel_rfl)) ?_
       refine tak_ 6 (some 27) rfl rfl (take_ofW HT_.out HW_.out (by kernel_rfl)) hHeld ?_ (by rintro w' ⟨s0, s1, s2, s3, s4, s5, s6, s7, s8, s9, s10, s11, s12, s13, s14, s15⟩; (first | (refine load_cells_14 (ty := 28) (x := .tmp 1) (g := gb401) ?hlo_ ?hx_ Try.underlying28 ?hd_ ?hi_ s0 s1 s2 s3 s4 s5 s6 s7 s8 s9 s10 s11 s12 s13; (case hlo_ => rfl); (case hx_ => rfl); (case hd_ => rfl); (case hi_ => kernel_rfl)) | (go_simp; with_reducible rfl)))
       refine oon_ 7 (some 28) rfl rfl (one_of HT_.out (by kernel_rfl)) (fun K hK => ?_)
       refine gos_ Try.func43 (r33_node.calls a0_0 a0_1 a0_2 a0_3 a0_4 a0_5 a0_6 a0_7 a0_8 a0_9 _ _ l0_10 (rd l0_11 x3_1) _ _ (Kd.C_below HR0_10.out HB.out) HC0_10.out A9.out) ?_
       rintro e w21 ⟨rfl, hb⟩
       refine ⟨_, rfl, ?_⟩
       replace BK401 := bkb_ BK401 hb
       replace HB := bst_ HB hb
       (try clear hb)
       (try clear hb2)
       (try clear hk)
       (try clear hi)
       obtain ⟨i022, hi022, _, hsz22, _⟩ := info_parts info3
       obtain ⟨hcut22, hA22, hC22⟩ := print_take_of (P := Try.prog) (Value.int .i64) 0 22 3 .i64 Try.underlying22 hi022 hsz22 (some ad404) c0_11 l0_11 x3_1 (of_decide_eq_true (by first | (with_reducible assumption) | assumption)) (of_decide_eq_true (by first | (with_reducible assumption) | assumption)) HC0_11.out
       have HR406 := am_ (Kd.C_of_reads (h1 := fun _ => rfl) (hA22 _ (Kd.reads_of_C HR0_11.out)))
       have HC406 := am_ hC22
       clear hA22 hC22 hi022 hsz22
       refine hK.out _ _ (and_14 BK401.out ⟨((HB.out.cell (World.block_lt_of_cell? w _ hw404_0)).trans hw404_0), ((HB.out.cell (World.block_lt_of_cell? w _ hw407_0)).trans hw407_0)⟩) (fun hHeld => ?_)
       clear hK K
       refine nor_ 28 ?_
       refine pur_ 8 (some 29) rfl rfl (any_of HT_.out (by kernel_rfl)) ?_
       refine pur_ 9 (some 30) rfl rfl (any_of HT_.out (by kernel_rfl)) ?_
       refine pur_ 10 (some 31) rfl rfl (any_of HT_.out (by kernel_rfl)) ?_
       refine pur_ 12 (some 33) rfl rfl (any_of HT_.out (by kernel_rfl)) ?_
       refine pur_ 14 (some 35) rfl rfl (any_of HT_.out (by kernel_rfl)) ?_
       refine pur_ 16 (some 37) rfl rfl (any_of HT_.out (by kernel_rfl)) ?_
       refine tak_ 11 (some 32) rfl rfl (take_ofW HT_.out HW_.out (by kernel_rfl)) hHeld ?_ (by rintro w' ⟨s0, s1, s2, s3, s4, s5, s6, s7, s8, s9, s10, s11, s12, s13, s14, s15⟩; (first | (refine load_cells_14 (ty := 28) (x := .tmp 1) (g := gb401) ?hlo_ ?hx_ Try.underlying28 ?hd_ ?hi_ s0 s1 s2 s3 s4 s5 s6 s7 s8 s9 s10 s11 s12 s13; (case hlo_ => rfl); (case hx_ => rfl); (case hd_ => rfl); (case hi_ => kernel_rfl)) | (go_simp; with_reducible rfl)))
       refine pur_ 13 (some 34) rfl rfl (any_of HT_.out (by kernel_rfl)) ?_
       refine tak_ 15 (some 36) rfl rfl (take_ofW HT_.out HW_.out (by kernel_rfl)) hHeld ?_ (by rintro w' ⟨s0, s1, s2, s3, s4, s5, s6, s7, s8, s9, s10, s11, s12, s13, s14, s15⟩; (first | (refine load_cells_14 (ty := 28) (x := .tmp 1) (g := gb401) ?hlo_ ?hx_ Try.underlying28 ?hd_ ?hi_ s0 s1 s2 s3 s4 s5 s6 s7 s8 s9 s10 s11 s12 s13; (case hlo_ => rfl); (case hx_ => rfl); (case hd_ => rfl); (case hi_ => kernel_rfl)) | (go_simp; with_reducible rfl)))
       refine pur_ 17 (some 38) rfl rfl (any_of HT_.out (by kernel_rfl)) ?_
       refine tak_ 18 (some 39) rfl rfl (take_ofW HT_.out HW_.out (by kernel_rfl)) hHeld ?_ (by rintro w' ⟨s0, s1, s2, s3, s4, s5, s6, s7, s8, s9, s10, s11, s12, s13, s14, s15⟩; (first | (refine load_cells_14 (ty := 28) (x := .tmp 1) (g := gb401) ?hlo_ ?hx_ Try.underlying28 ?hd_ ?hi_ s0 s1 s2 s3 s4 s5 s6 s7 s8 s9 s10 s11 s12 s13; (case hlo_ => rfl); (case hx_ => rfl); (case hd_ => rfl); (case hi_ => kernel_rfl)) | (go_simp; with_reducible rfl)))
       refine oon_ 19 (some 40) rfl rfl (one_of HT_.out (by kernel_rfl)) (fun K hK => ?_)
       refine goes_ Try.func44 (by kernel_rfl) rfl #[.slice (some ad404) (l0_11.take (x3_1 : Int).toNat).length c0_11, .int .i64 (rd l0_11 x3_1)] (by rfl) rfl rfl (by (try simp only [List.map_toArray, List.map_cons, List.map_nil]); first | done | (rw [show (l0_11.take (x3_1 : Int).toNat).length = x3_1.toNat from (by rw [List.length_take]; have h_ : (x3_1 : Int) ≤ (l0_11.length : Int) := of_decide_eq_true (by first | (with_reducible assumption) | assumption); omega)] <;> rfl) | rfl | (simp only [List.length_drop, List.length_take]; rfl)) ?_
       with_reducible refine (r14_In.calls k1 _ _ (l0_11.take (x3_1 : Int).toNat) (rd l0_11 x3_1) _ _ ?side1 ?side2 A13.out).mono ?_
       (case side1 => exact (Kd.C_below HR406.out HB.out))
       (case side2 => exact HC406.out)
       rintro e w' ⟨rfl, ⟨nd, rfl⟩⟩
       refine ⟨_, rfl, ?_⟩
       refine hK.out _ _ (and_14 BK401.out ⟨((HB.out.cell (World.block_lt_of_cell? w _ hw404_0)).trans hw404_0), ((HB.out.cell (World.block_lt_of_cell? w _ hw407_0)).trans hw407_0)⟩) (fun hHeld => ?_)
       clear hK K
       refine nor_ 40 ?_
       refine pur_ 20 (some 41) rfl rfl (any_of HT_.out (by kernel_rfl)) ?_
       refine done_ (done_of HT_.out (by kernel_rfl)) ?_
       try go_wp2
       go_roundg k1
       case measure => have := HK1.out; omega
       case rel => exact ⟨(wrap64 (x3_1 + 1)), (by first | rfl | (simp; done) | (simp [*]; done)), H', ⟨by have := HK1.out; omega⟩, ⟨by (with_reducible repeat (first | apply kn_ | apply kd_ | apply ka_)); exact BK401.out⟩, ⟨by repeat (first | (with_reducible first | exact HB.out | apply ba_ | apply bn_ | apply bd_ | refine bs_ ?_ GE401.out) | exact HB.out)⟩⟩
      ·rw [if_neg c12] at H
       exact absurd H (by simp)
      replace c10 := Bool.eq_false_iff.mpr c10
      subst c10
      rw [if_neg (show ¬ (false = true) by decide)] at H
      obtain rfl := Option.some.inj H
      rotate_left
      all_goals
       have hcz15 := cells_14 BK401.out
       have hfz15 := frozen_14 BK401.out
       try go_wp2
       replace BK401 := am_ (blk_drew BK401.out)
       replace HB := am_ (below_drew1 HB.out)
       have p404 : 0 ≤ (x3_1 : Int) := of_decide_eq_true (by first | (with_reducible assumption) | assumption)
       have q404 : x3_1 < (l0_11.length : Int) := of_decide_eq_true (by first | (with_reducible assumption) | assumption)
       obtain ⟨ad404, e404, hx404_0⟩ := Kd.at_int HR0_11.out x3_1 p404 q404
       have hw404_0 := hx404_0
       cases e404
       replace hx404_0 := (HB.out.cell (World.block_lt_of_cell? w _ hx404_0)).trans hx404_0
       replace p404 := eq_true p404
       replace q404 := eq_true q404
      ·have p407 : 0 ≤ (x3_1 : Int) := of_decide_eq_true (by first | (with_reducible assumption) | assumption)
       have q407 : x3_1 < (l0_11.length : Int) := of_decide_eq_true (by first | (with_reducible assumption) | assumption)
       obtain ⟨ad407, e407, hx407_0⟩ := Kd.at_int HR0_11.out x3_1 p407 q407
       have hw407_0 := hx407_0
       obtain rfl : ad404 = ad407 := (by injection e407)
       replace hx407_0 := (HB.out.cell (World.block_lt_of_cell? w _ hx407_0)).trans hx407_0
       replace p407 := eq_true p407
       replace q407 := eq_true q407
       refine start_ (n := 21) (S := fun w' => ce_ w' gb401 0 (.int .i64 a0_0) ∧ ce_ w' gb401 1 (.int .i64 a0_1) ∧ ce_ w' gb401 2 (.int .i64 a0_2) ∧ ce_ w' gb401 3 (.int .i64 a0_3) ∧ ce_ w' gb401 4 (.int .i64 a0_4) ∧ ce_ w' gb401 5 (.int .i64 a0_5) ∧ ce_ w' gb401 6 (.int .i64 a0_6) ∧ ce_ w' gb401 7 (.int .i64 a0_7) ∧ ce_ w' gb401 8 (.int .i64 a0_8) ∧ ce_ w' gb401 9 (.int .i64 a0_9) ∧ ce_ w' gb401 10 (.slice A0_10 l0_10.length c0_10) ∧ ce_ w' gb401 11 (.slice (some ad404) l0_11.length c0_11) ∧ ce_ w' gb401 12 (.slice A0_12 l0_12.length c0_12) ∧ ce_ w' gb401 13 (.slice A0_13 l0_13.length c0_13) ∧ w'.cell? (ad404.add (x3_1).toNat) = some (.int .i64 (rd l0_11 x3_1)) ∧ w'.cell? (ad404.add (x3_1).toNat) = some (.int .i64 (rd l0_11 x3_1))) (ds := []) #[false, false, false, false, false, false, false, false, false, false, false, false, false, false, false, false, false, false, false, false, false] (by kernel_rfl) rfl rfl ⟨(blk_cell BK401.out 0).trans rfl, (blk_cell BK401.out 1).trans rfl, (blk_cell BK401.out 2).trans rfl, (blk_cell BK401.out 3).trans rfl, (blk_cell BK401.out 4).trans rfl, (blk_cell BK401.out 5).trans rfl, (blk_cell BK401.out 6).trans rfl, (blk_cell BK401.out 7).trans rfl, (blk_cell BK401.out 8).trans rfl, (blk_cell BK401.out 9).trans rfl, (blk_cell BK401.out 10).trans rfl, (blk_cell BK401.out 11).trans rfl, (blk_cell BK401.out 12).trans rfl, (blk_cell BK401.out 13).trans rfl, ((HB.out.cell (World.block_lt_of_cell? w _ hw404_0)).trans hw404_0), ((HB.out.cell (World.block_lt_of_cell? w _ hw407_0)).trans hw407_0)⟩ (fun hHeld => ?_); refine with_tabW r33_Right.tab6 r33_Right.bits6 (fun HT_ HW_ => ?_)
       generalize wr.drew = w16 at BK401 HB hx404_0 hx407_0 hHeld ⊢
       refine pur_ 0 (some 21) rfl rfl (any_of HT_.out (by kernel_rfl)) ?_
       refine pur_ 2 (some 23) rfl rfl (any_of HT_.out (by kernel_rfl)) ?_
       refine pur_ 4 (some 25) rfl rfl (any_of HT_.out (by kernel_rfl)) ?_
       refine tak_ 1 (some 22) rfl rfl (take_ofW HT_.out HW_.out (by kernel_rfl)) hHeld ?_ (by rintro w' ⟨s0, s1, s2, s3, s4, s5, s6, s7, s8, s9, s10, s11, s12, s13, s14, s15⟩; (first | (refine load_cells_14 (ty := 28) (x := .tmp 1) (g := gb401) ?hlo_ ?hx_ Try.underlying28 ?hd_ ?hi_ s0 s1 s2 s3 s4 s5 s6 s7 s8 s9 s10 s11 s12 s13; (case hlo_ => rfl); (case hx_ => rfl); (case hd_ => rfl); (case hi_ => kernel_rfl)) | (go_simp; with_reducible rfl)))
       refine tak_ 3 (some 24) rfl rfl (take_ofW HT_.out HW_.out (by kernel_rfl)) hHeld ?_ (by rintro w' ⟨s0, s1, s2, s3, s4, s5, s6, s7, s8, s9, s10, s11, s12, s13, s14, s15⟩; (first | (refine load_cells_14 (ty := 28) (x := .tmp 1) (g := gb401) ?hlo_ ?hx_ Try.underlying28 ?hd_ ?hi_ s0 s1 s2 s3 s4 s5 s6 s7 s8 s9 s10 s11 s12 s13; (case hlo_ => rfl); (case hx_ => rfl); (case hd_ => rfl); (case hi_ => kernel_rfl)) | (go_simp; with_reducible rfl)))
       refine pur_ 5 (some 26) rfl rfl (any_of HT_.out (by kernel_rfl)) ?_
       refine tak_ 6 (some 27) rfl rfl (take_ofW HT_.out HW_.out (by kernel_rfl)) hHeld ?_ (by rintro w' ⟨s0, s1, s2, s3, s4, s5, s6, s7, s8, s9, s10, s11, s12, s13, s14, s15⟩; (first | (refine load_cells_14 (ty := 28) (x := .tmp 1) (g := gb401) ?hlo_ ?hx_ Try.underlying28 ?hd_ ?hi_ s0 s1 s2 s3 s4 s5 s6 s7 s8 s9 s10 s11 s12 s13; (case hlo_ => rfl); (case hx_ => rfl); (case hd_ => rfl); (case hi_ => kernel_rfl)) | (go_simp; with_reducible rfl)))
       refine oon_ 7 (some 28) rfl rfl (one_of HT_.out (by kernel_rfl)) (fun K hK => ?_)
       refine gos_ Try.func43 (r33_node.calls a0_0 a0_1 a0_2 a0_3 a0_4 a0_5 a0_6 a0_7 a0_8 a0_9 _ _ l0_10 (rd l0_11 x3_1) _ _ (Kd.C_below HR0_10.out HB.out) HC0_10.out A9.out) ?_
       rintro e w17 ⟨rfl, hb⟩
       refine ⟨_, rfl, ?_⟩
       replace BK401 := bkb_ BK401 hb
       replace HB := bst_ HB hb
       (try clear hb)
       (try clear hb2)
       (try clear hk)
       (try clear hi)
       obtain ⟨i018, hi018, _, hsz18, _⟩ := info_parts info3
       obtain ⟨hcut18, hA18, hC18⟩ := print_take_of (P := Try.prog) (Value.int .i64) 0 22 3 .i64 Try.underlying22 hi018 hsz18 (some ad404) c0_11 l0_11 x3_1 (of_decide_eq_true (by first | (with_reducible assumption) | assumption)) (of_decide_eq_true (by first | (with_reducible assumption) | assumption)) HC0_11.out
       have HR406 := am_ (Kd.C_of_reads (h1 := fun _ => rfl) (hA18 _ (Kd.reads_of_C HR0_11.out)))
       have HC406 := am_ hC18
       clear hA18 hC18 hi018 hsz18
       refine hK.out _ _ (and_14 BK401.out ⟨((HB.out.cell (World.block_lt_of_cell? w _ hw404_0)).trans hw404_0), ((HB.out.cell (World.block_lt_of_cell? w _ hw407_0)).trans hw407_0)⟩) (fun hHeld => ?_)
       clear hK K
       refine nor_ 28 ?_
       refine pur_ 8 (some 29) rfl rfl (any_of HT_.out (by kernel_rfl)) ?_
       refine pur_ 9 (some 30) rfl rfl (any_of HT_.out (by kernel_rfl)) ?_
       refine pur_ 10 (some 31) rfl rfl (any_of HT_.out (by kernel_rfl)) ?_
       refine pur_ 12 (some 33) rfl rfl (any_of HT_.out (by kernel_rfl)) ?_
       refine pur_ 14 (some 35) rfl rfl (any_of HT_.out (by kernel_rfl)) ?_
       refine pur_ 16 (some 37) rfl rfl (any_of HT_.out (by kernel_rfl)) ?_
       refine tak_ 11 (some 32) rfl rfl (take_ofW HT_.out HW_.out (by kernel_rfl)) hHeld ?_ (by rintro w' ⟨s0, s1, s2, s3, s4, s5, s6, s7, s8, s9, s10, s11, s12, s13, s14, s15⟩; (first | (refine load_cells_14 (ty := 28) (x := .tmp 1) (g := gb401) ?hlo_ ?hx_ Try.underlying28 ?hd_ ?hi_ s0 s1 s2 s3 s4 s5 s6 s7 s8 s9 s10 s11 s12 s13; (case hlo_ => rfl); (case hx_ => rfl); (case hd_ => rfl); (case hi_ => kernel_rfl)) | (go_simp; with_reducible rfl)))
       refine pur_ 13 (some 34) rfl rfl (any_of HT_.out (by kernel_rfl)) ?_
       refine tak_ 15 (some 36) rfl rfl (take_ofW HT_.out HW_.out (by kernel_rfl)) hHeld ?_ (by rintro w' ⟨s0, s1, s2, s3, s4, s5, s6, s7, s8, s9, s10, s11, s12, s13, s14, s15⟩; (first | (refine load_cells_14 (ty := 28) (x := .tmp 1) (g := gb401) ?hlo_ ?hx_ Try.underlying28 ?hd_ ?hi_ s0 s1 s2 s3 s4 s5 s6 s7 s8 s9 s10 s11 s12 s13; (case hlo_ => rfl); (case hx_ => rfl); (case hd_ => rfl); (case hi_ => kernel_rfl)) | (go_simp; with_reducible rfl)))
       refine pur_ 17 (some 38) rfl rfl (any_of HT_.out (by kernel_rfl)) ?_
       refine tak_ 18 (some 39) rfl rfl (take_ofW HT_.out HW_.out (by kernel_rfl)) hHeld ?_ (by rintro w' ⟨s0, s1, s2, s3, s4, s5, s6, s7, s8, s9, s10, s11, s12, s13, s14, s15⟩; (first | (refine load_cells_14 (ty := 28) (x := .tmp 1) (g := gb401) ?hlo_ ?hx_ Try.underlying28 ?hd_ ?hi_ s0 s1 s2 s3 s4 s5 s6 s7 s8 s9 s10 s11 s12 s13; (case hlo_ => rfl); (case hx_ => rfl); (case hd_ => rfl); (case hi_ => kernel_rfl)) | (go_simp; with_reducible rfl)))
       refine oon_ 19 (some 40) rfl rfl (one_of HT_.out (by kernel_rfl)) (fun K hK => ?_)
       refine goes_ Try.func44 (by kernel_rfl) rfl #[.slice (some ad404) (l0_11.take (x3_1 : Int).toNat).length c0_11, .int .i64 (rd l0_11 x3_1)] (by rfl) rfl rfl (by (try simp only [List.map_toArray, List.map_cons, List.map_nil]); first | done | (rw [show (l0_11.take (x3_1 : Int).toNat).length = x3_1.toNat from (by rw [List.length_take]; have h_ : (x3_1 : Int) ≤ (l0_11.length : Int) := of_decide_eq_true (by first | (with_reducible assumption) | assumption); omega)] <;> rfl) | rfl | (simp only [List.length_drop, List.length_take]; rfl)) ?_
       with_reducible refine (r14_In.calls k1 _ _ (l0_11.take (x3_1 : Int).toNat) (rd l0_11 x3_1) _ _ ?side1 ?side2 A13.out).mono ?_
       (case side1 => exact (Kd.C_below HR406.out HB.out))
       (case side2 => exact HC406.out)
       rintro e w' ⟨rfl, ⟨nd, rfl⟩⟩
       refine ⟨_, rfl, ?_⟩
       refine hK.out _ _ (and_14 BK401.out ⟨((HB.out.cell (World.block_lt_of_cell? w _ hw404_0)).trans hw404_0), ((HB.out.cell (World.block_lt_of_cell? w _ hw407_0)).trans hw407_0)⟩) (fun hHeld => ?_)
       clear hK K
       refine nor_ 40 ?_
       refine pur_ 20 (some 41) rfl rfl (any_of HT_.out (by kernel_rfl)) ?_
       refine done_ (done_of HT_.out (by kernel_rfl)) ?_
       try go_wp2
       go_ret
       exact ⟨by first | rfl | (simp [*] <;> rfl), by repeat (first | (with_reducible first | exact HB.out | apply ba_ | apply bn_ | apply bd_ | refine bs_ ?_ GE401.out) | exact HB.out)⟩
      ·refine start_ (n := 21) (S := fun w' => ce_ w' gb401 0 (.int .i64 a0_0) ∧ ce_ w' gb401 1 (.int .i64 a0_1) ∧ ce_ w' gb401 2 (.int .i64 a0_2) ∧ ce_ w' gb401 3 (.int .i64 a0_3) ∧ ce_ w' gb401 4 (.int .i64 a0_4) ∧ ce_ w' gb401 5 (.int .i64 a0_5) ∧ ce_ w' gb401 6 (.int .i64 a0_6) ∧ ce_ w' gb401 7 (.int .i64 a0_7) ∧ ce_ w' gb401 8 (.int .i64 a0_8) ∧ ce_ w' gb401 9 (.int .i64 a0_9) ∧ ce_ w' gb401 10 (.slice A0_10 l0_10.length c0_10) ∧ ce_ w' gb401 11 (.slice (some ad404) l0_11.length c0_11) ∧ ce_ w' gb401 12 (.slice A0_12 l0_12.length c0_12) ∧ ce_ w' gb401 13 (.slice A0_13 l0_13.length c0_13) ∧ w'.cell? (ad404.add (x3_1).toNat) = some (.int .i64 (rd l0_11 x3_1))) (ds := []) #[false, false, false, false, false, false, false, false, false, false, false, false, false, false, false, false, false, false, false, false, false] (by kernel_rfl) rfl rfl ⟨(blk_cell BK401.out 0).trans rfl, (blk_cell BK401.out 1).trans rfl, (blk_cell BK401.out 2).trans rfl, (blk_cell BK401.out 3).trans rfl, (blk_cell BK401.out 4).trans rfl, (blk_cell BK401.out 5).trans rfl, (blk_cell BK401.out 6).trans rfl, (blk_cell BK401.out 7).trans rfl, (blk_cell BK401.out 8).trans rfl, (blk_cell BK401.out 9).trans rfl, (blk_cell BK401.out 10).trans rfl, (blk_cell BK401.out 11).trans rfl, (blk_cell BK401.out 12).trans rfl, (blk_cell BK401.out 13).trans rfl, ((HB.out.cell (World.block_lt_of_cell? w _ hw404_0)).trans hw404_0)⟩ (fun hHeld => ?_); refine with_tabW r33_Right.tab6 r33_Right.bits6 (fun HT_ HW_ => ?_)
       generalize wr.drew = w24 at BK401 HB hx404_0 hHeld ⊢
       refine pur_ 0 (some 21) rfl rfl (any_of HT_.out (by kernel_rfl)) ?_
       refine pur_ 2 (some 23) rfl rfl (any_of HT_.out (by kernel_rfl)) ?_
       refine pur_ 4 (some 25) rfl rfl (any_of HT_.out (by kernel_rfl)) ?_
       refine tak_ 1 (some 22) rfl rfl (take_ofW HT_.out HW_.out (by kernel_rfl)) hHeld ?_ (by rintro w' ⟨s0, s1, s2, s3, s4, s5, s6, s7, s8, s9, s10, s11, s12, s13, s14⟩; (first | (refine load_cells_14 (ty := 28) (x := .tmp 1) (g := gb401) ?hlo_ ?hx_ Try.underlying28 ?hd_ ?hi_ s0 s1 s2 s3 s4 s5 s6 s7 s8 s9 s10 s11 s12 s13; (case hlo_ => rfl); (case hx_ => rfl); (case hd_ => rfl); (case hi_ => kernel_rfl)) | (go_simp; with_reducible rfl)))
       refine tak_ 3 (some 24) rfl rfl (take_ofW HT_.out HW_.out (by kernel_rfl)) hHeld ?_ (by rintro w' ⟨s0, s1, s2, s3, s4, s5, s6, s7, s8, s9, s10, s11, s12, s13, s14⟩; (first | (refine load_cells_14 (ty := 28) (x := .tmp 1) (g := gb401) ?hlo_ ?hx_ Try.underlying28 ?hd_ ?hi_ s0 s1 s2 s3 s4 s5 s6 s7 s8 s9 s10 s11 s12 s13; (case hlo_ => rfl); (case hx_ => rfl); (case hd_ => rfl); (case hi_ => kernel_rfl)) | (go_simp; with_reducible rfl)))
       refine pur_ 5 (some 26) rfl rfl (any_of HT_.out (by kernel_rfl)) ?_
       refine tak_ 6 (some 27) rfl rfl (take_ofW HT_.out HW_.out (by kernel_rfl)) hHeld ?_ (by rintro w' ⟨s0, s1, s2, s3, s4, s5, s6, s7, s8, s9, s10, s11, s12, s13, s14⟩; (first | (refine load_cells_14 (ty := 28) (x := .tmp 1) (g := gb401) ?hlo_ ?hx_ Try.underlying28 ?hd_ ?hi_ s0 s1 s2 s3 s4 s5 s6 s7 s8 s9 s10 s11 s12 s13; (case hlo_ => rfl); (case hx_ => rfl); (case hd_ => rfl); (case hi_ => kernel_rfl)) | (go_simp; with_reducible rfl)))
       refine oon_ 7 (some 28) rfl rfl (one_of HT_.out (by kernel_rfl)) (fun K hK => ?_)
       refine gos_ Try.func43 (r33_node.calls a0_0 a0_1 a0_2 a0_3 a0_4 a0_5 a0_6 a0_7 a0_8 a0_9 _ _ l0_10 (rd l0_11 x3_1) _ _ (Kd.C_below HR0_10.out HB.out) HC0_10.out A9.out) ?_
       rintro e w25 ⟨rfl, hb⟩
       refine ⟨_, rfl, ?_⟩
       replace BK401 := bkb_ BK401 hb
       replace HB := bst_ HB hb
       (try clear hb)
       (try clear hb2)
       (try clear hk)
       (try clear hi)
       refine hK.out _ _ (and_14 BK401.out ((HB.out.cell (World.block_lt_of_cell? w _ hw404_0)).trans hw404_0)) (fun hHeld => ?_)
       clear hK K
       refine nor_ 28 ?_
       refine pur_ 8 (some 29) rfl rfl (any_of HT_.out (by kernel_rfl)) ?_
       refine pur_ 9 (some 30) rfl rfl (any_of HT_.out (by kernel_rfl)) ?_
       refine puu_ 10 (some 31) rfl rfl (any_of HT_.out (by kernel_rfl)) ?_
       refine puu_ 11 (some 32) rfl rfl (any_of HT_.out (by kernel_rfl)) ?_
       refine puu_ 12 (some 33) rfl rfl (any_of HT_.out (by kernel_rfl)) ?_
       refine puu_ 13 (some 34) rfl rfl (any_of HT_.out (by kernel_rfl)) ?_
       refine puu_ 14 (some 35) rfl rfl (any_of HT_.out (by kernel_rfl)) ?_
       refine puu_ 15 (some 36) rfl rfl (any_of HT_.out (by kernel_rfl)) ?_
       refine puu_ 16 (some 37) rfl rfl (any_of HT_.out (by kernel_rfl)) ?_
       refine puu_ 17 (some 38) rfl rfl (any_of HT_.out (by kernel_rfl)) ?_
       refine puu_ 18 (some 39) rfl rfl (any_of HT_.out (by kernel_rfl)) ?_
       refine puu_ 19 (some 40) rfl rfl (any_of HT_.out (by kernel_rfl)) ?_
       refine pur_ 20 (some 41) rfl rfl (any_of HT_.out (by kernel_rfl)) ?_
       refine done_ (done_of HT_.out (by kernel_rfl)) ?_
       try go_wp2
       go_ret
       exact ⟨by first | rfl | (simp [*] <;> rfl), by repeat (first | (with_reducible first | exact HB.out | apply ba_ | apply bn_ | apply bd_ | refine bs_ ?_ GE401.out) | exact HB.out)⟩
     ·rw [if_neg c8] at H
      exact absurd H (by simp)
    ·rw [if_neg c7] at H
     have c7b0 : decide (x3_1 < (l0_11.length : Int)) = false := decide_eq_false c7
     clear c7
     have HC26 := am_ H
     clear H
     have hcz27 := cells_14 BK401.out
     have hfz27 := frozen_14 BK401.out
     go_upto_region 8 with (fail)
     go_cut [54] (fun v54 wc => ∃ (kq : Nat) (x54_25 : Bool), v54 = .bool x54_25 ∧ Aside0 (r33_Right.j1 kq x54_25 a0_0 a0_1 a0_2 a0_3 a0_4 a0_5 a0_6 a0_7 a0_8 a0_9 l0_10 l0_11 l0_12 l0_13 = some r) ∧ Aside0 (kq ≤ k1) ∧ Aside0 (wc.heap[gb401]? = some (.cells #[.int .i64 a0_0, .int .i64 a0_1, .int .i64 a0_2, .int .i64 a0_3, .int .i64 a0_4, .int .i64 a0_5, .int .i64 a0_6, .int .i64 a0_7, .int .i64 a0_8, .int .i64 a0_9, (.slice A0_10 l0_10.length c0_10), (.slice A0_11 l0_11.length c0_11), (.slice A0_12 l0_12.length c0_12), (.slice A0_13 l0_13.length c0_13)] 28 (0, 0))) ∧ Aside0 (Below w.heap.size w wc))
     case first =>
      have H := HC26.out
      clear HC26
      by_cases c28 : (l0_12.length : Int) > a0_0
      ·rw [if_pos c28] at H
       have c28b0 : decide (a0_0 < (l0_12.length : Int)) = true := decide_eq_true c28
       clear c28
       (first | rw [c28b0] | (simp only [i64_w, i32_w]; rw [c28b0]) | skip)
       have H' := am_ H
       clear H
       have hcz29 := cells_14 BK401.out
       have hfz29 := frozen_14 BK401.out
       go_wp2
       go_meet
       case rel => exact ⟨_, (true), (by first | rfl | (simp; done) | (simp [*]; done)), H', ⟨by have := HK1.out; first | omega | exact Nat.le_refl _⟩, ⟨by (with_reducible repeat (first | apply kn_ | apply kd_ | apply ka_)); exact BK401.out⟩, ⟨by repeat (first | (with_reducible first | exact HB.out | apply ba_ | apply bn_ | apply bd_ | refine bs_ ?_ GE401.out) | exact HB.out)⟩⟩
      ·rw [if_neg c28] at H
       have c28b0 : decide (a0_0 < (l0_12.length : Int)) = false := decide_eq_false c28
       clear c28
       (first | rw [c28b0] | (simp only [i64_w, i32_w]; rw [c28b0]) | skip)
       have H' := am_ H
       clear H
       have hcz30 := cells_14 BK401.out
       have hfz30 := frozen_14 BK401.out
       go_wp2
       go_meet
       case rel => exact ⟨_, (decide ((l0_13.length : Int) > 2000)), (by first | rfl | (simp; done) | (simp [*]; done)), H', ⟨by have := HK1.out; first | omega | exact Nat.le_refl _⟩, ⟨by (with_reducible repeat (first | apply kn_ | apply kd_ | apply ka_)); exact BK401.out⟩, ⟨by repeat (first | (with_reducible first | exact HB.out | apply ba_ | apply bn_ | apply bd_ | refine bs_ ?_ GE401.out) | exact HB.out)⟩⟩
     case rest =>
      clear HC26
      try clear c1
      try clear c2
      try clear p2
      try clear c4
      try clear p4
      try clear q4
      try clear hx4
      try clear p6
      try clear c7
      try clear c7b0
      try clear c8
      try clear c10
      try clear c12
      try clear c14
      try clear c28
      try clear c28b0
      try clear hcz19
      try clear hcz23
      try clear hcz27
      try clear hcz29
      try clear hcz30
      try clear hfz19
      try clear hfz23
      try clear hfz27
      try clear hfz29
      try clear hfz30
      try clear hx404_0
      try clear hx407_0
      try clear p404
      try clear p407
      try clear q404
      try clear q407
      obtain ⟨kq, x54_25, rfl, HA, HJ25, BK401, HB⟩ := hcut
      cases kq with
      | zero => exact absurd HA.out (by simp [r33_Right.j1])
      | succ kj25 =>
       have H := HA.out
       clear HA
       simp only [r33_Right.j1] at H
       by_cases c31 : x54_25 = true
       ·subst c31
        rw [if_pos rfl] at H
        obtain rfl := Option.some.inj H
        go_wp2
        go_ret
        exact ⟨by first | rfl | (simp [*] <;> rfl), by repeat (first | (with_reducible first | exact HB.out | apply ba_ | apply bn_ | apply bd_ | refine bs_ ?_ GE401.out) | exact HB.out)⟩
       ·replace c31 := Bool.eq_false_iff.mpr c31
        subst c31
        rw [if_neg (show ¬ (false = true) by decide)] at H
        have H' := am_ H
        clear H
        go_wp2
        go_loopg [4] kj25 (fun kq v4 w' => ∃ (x4_3 : Int), v4 = .int .i64 x4_3 ∧ Aside0 (r33_Right.l1 kq x4_3 a0_0 a0_1 a0_2 a0_3 a0_4 a0_5 a0_6 a0_7 a0_8 a0_9 l0_10 l0_11 l0_12 l0_13 = some r) ∧ Aside0 (kq ≤ kj25) ∧ Aside0 (w'.heap[gb401]? = some (.cells #[.int .i64 a0_0, .int .i64 a0_1, .int .i64 a0_2, .int .i64 a0_3, .int .i64 a0_4, .int .i64 a0_5, .int .i64 a0_6, .int .i64 a0_7, .int .i64 a0_8, .int .i64 a0_9, (.slice A0_10 l0_10.length c0_10), (.slice A0_11 l0_11.length c0_11), (.slice A0_12 l0_12.length c0_12), (.slice A0_13 l0_13.length c0_13)] 28 (0, 0))) ∧ Aside0 (Below w.heap.size w w'))
        case atStart => exact ⟨(0), (by first | rfl | (simp; done) | (simp [*]; done)), H', ⟨Nat.le_refl _⟩, ⟨by (with_reducible repeat (first | apply kn_ | apply kd_ | apply ka_)); exact BK401.out⟩, ⟨by repeat (first | (with_reducible first | exact HB.out | apply ba_ | apply bn_ | apply bd_ | refine bs_ ?_ GE401.out) | exact HB.out)⟩⟩
        case round =>
         clear H'
         try clear c1
         try clear c2
         try clear p2
         try clear c3
         try clear c4
         try clear p4
         try clear q4
         try clear hx4
         try clear p6
         try clear c7
         try clear c7b0
         try clear c8
         try clear c10
         try clear c12
         try clear c14
         try clear c28
         try clear c28b0
         try clear c31
         try clear hcz19
         try clear hcz23
         try clear hcz27
         try clear hcz29
         try clear hcz30
         try clear hfz19
         try clear hfz23
         try clear hfz27
         try clear hfz29
         try clear hfz30
         try clear hx404_0
         try clear hx407_0
         try clear p2
         try clear p4
         try clear p404
         try clear p407
         try clear p6
         try clear q4
         try clear q404
         try clear q407
         obtain ⟨x4_3, rfl, HA, HK3, BK401, HB⟩ := hrel
         cases gk with
         | zero => exact absurd HA.out (by simp [r33_Right.l1])
         | succ k3 =>
          have H := HA.out
          clear HA
          simp only [r33_Right.l1] at H
          by_cases c32 : x4_3 < (l0_12.length : Int)
          ·rw [if_pos c32] at H
           have c32b0 : decide (x4_3 < (l0_12.length : Int)) = true := decide_eq_true c32
           clear c32
           by_cases c33 : 0 ≤ x4_3
           ·rw [if_pos c33] at H
            have c33b0 : decide (0 ≤ x4_3) = true := decide_eq_true c33
            clear c33
            by_cases c34 : ((rdOf ByteArray.empty l0_12 x4_3).size : Int) > 8000
            ·rw [if_pos c34] at H
             have c34b0 : decide (8000 < ((rdOf ByteArray.empty l0_12 x4_3).size : Int)) = true := decide_eq_true c34
             have c34b1 : decide (8000 < (rdOf ByteArray.empty l0_12 x4_3).size) = true := decide_eq_true (by omega)
             clear c34
             obtain rfl := Option.some.inj H
             have hcz35 := cells_14 BK401.out
             have hfz35 := frozen_14 BK401.out
             have p409 : 0 ≤ (x4_3 : Int) := of_decide_eq_true (by first | (with_reducible assumption) | assumption)
             have q409 : x4_3 < (l0_12.length : Int) := of_decide_eq_true (by first | (with_reducible assumption) | assumption)
             obtain ⟨ad409, e409, hx409_0⟩ := Kd.at_string HR0_12.out x4_3 p409 q409
             cases e409
             replace hx409_0 := (HB.out.cell (World.block_lt_of_cell? w _ hx409_0)).trans hx409_0
             replace p409 := eq_true p409
             replace q409 := eq_true q409
             go_wp2
             go_ret
             exact ⟨by first | rfl | (simp [*] <;> rfl), by repeat (first | (with_reducible first | exact HB.out | apply ba_ | apply bn_ | apply bd_ | refine bs_ ?_ GE401.out) | exact HB.out)⟩
            ·rw [if_neg c34] at H
             have c34b0 : decide (8000 < ((rdOf ByteArray.empty l0_12 x4_3).size : Int)) = false := decide_eq_false c34
             have c34b1 : decide (8000 < (rdOf ByteArray.empty l0_12 x4_3).size) = false := decide_eq_false (by omega)
             clear c34
             have H' := am_ H
             clear H
             have hcz36 := cells_14 BK401.out
             have hfz36 := frozen_14 BK401.out
             have p409 : 0 ≤ (x4_3 : Int) := of_decide_eq_true (by first | (with_reducible assumption) | assumption)
             have q409 : x4_3 < (l0_12.length : Int) := of_decide_eq_true (by first | (with_reducible assumption) | assumption)
             obtain ⟨ad409, e409, hx409_0⟩ := Kd.at_string HR0_12.out x4_3 p409 q409
             cases e409
             replace hx409_0 := (HB.out.cell (World.block_lt_of_cell? w _ hx409_0)).trans hx409_0
             replace p409 := eq_true p409
             replace q409 := eq_true q409
             go_wp2
             go_roundg k3
             case measure => have := HK1.out; have := HJ25.out; have := HK3.out; omega
             case rel => exact ⟨(wrap64 (x4_3 + 1)), (by first | rfl | (simp; done) | (simp [*]; done)), H', ⟨by have := HK1.out; have := HJ25.out; have := HK3.out; omega⟩, ⟨by (with_reducible repeat (first | apply kn_ | apply kd_ | apply ka_)); exact BK401.out⟩, ⟨by repeat (first | (with_reducible first | exact HB.out | apply ba_ | apply bn_ | apply bd_ | refine bs_ ?_ GE401.out) | exact HB.out)⟩⟩
           ·rw [if_neg c33] at H
            exact absurd H (by simp)
          ·rw [if_neg c32] at H
           have c32b0 : decide (x4_3 < (l0_12.length : Int)) = false := decide_eq_false c32
           clear c32
           have H' := am_ H
           clear H
           have hcz37 := cells_14 BK401.out
           have hfz37 := frozen_14 BK401.out
           go_wp2
           go_loopg [5] k3 (fun kq v5 w' => ∃ (x5_4 : Int), v5 = .int .i64 x5_4 ∧ Aside0 (r33_Right.l2 kq x5_4 a0_0 a0_1 a0_2 a0_3 a0_4 a0_5 a0_6 a0_7 a0_8 a0_9 l0_10 l0_11 l0_12 l0_13 = some r) ∧ Aside0 (kq ≤ k3) ∧ Aside0 (w'.heap[gb401]? = some (.cells #[.int .i64 a0_0, .int .i64 a0_1, .int .i64 a0_2, .int .i64 a0_3, .int .i64 a0_4, .int .i64 a0_5, .int .i64 a0_6, .int .i64 a0_7, .int .i64 a0_8, .int .i64 a0_9, (.slice A0_10 l0_10.length c0_10), (.slice A0_11 l0_11.length c0_11), (.slice A0_12 l0_12.length c0_12), (.slice A0_13 l0_13.length c0_13)] 28 (0, 0))) ∧ Aside0 (Below w.heap.size w w'))
           case atStart => exact ⟨(0), (by first | rfl | (simp; done) | (simp [*]; done)), H', ⟨Nat.le_refl _⟩, ⟨by (with_reducible repeat (first | apply kn_ | apply kd_ | apply ka_)); exact BK401.out⟩, ⟨by repeat (first | (with_reducible first | exact HB.out | apply ba_ | apply bn_ | apply bd_ | refine bs_ ?_ GE401.out) | exact HB.out)⟩⟩
           case round =>
            clear H'
            try clear c1
            try clear c2
            try clear p2
            try clear c3
            try clear c4
            try clear p4
            try clear q4
            try clear hx4
            try clear p6
            try clear c7
            try clear c7b0
            try clear c8
            try clear c10
            try clear c12
            try clear c14
            try clear c28
            try clear c28b0
            try clear c31
            try clear c32
            try clear c32b0
            try clear c33
            try clear c33b0
            try clear c34
            try clear c34b0
            try clear c34b1
            try clear hcz19
            try clear hcz23
            try clear hcz27
            try clear hcz29
            try clear hcz30
            try clear hcz35
            try clear hcz36
            try clear hcz37
            try clear hfz19
            try clear hfz23
            try clear hfz27
            try clear hfz29
            try clear hfz30
            try clear hfz35
            try clear hfz36
            try clear hfz37
            try clear hx404_0
            try clear hx407_0
            try clear hx409_0
            try clear p2
            try clear p4
            try clear p404
            try clear p407
            try clear p409
            try clear p6
            try clear q4
            try clear q404
            try clear q407
            try clear q409
            obtain ⟨x5_4, rfl, HA, HK4, BK401, HB⟩ := hrel
            cases gk with
            | zero => exact absurd HA.out (by simp [r33_Right.l2])
            | succ k4 =>
             have H := HA.out
             clear HA
             simp only [r33_Right.l2] at H
             by_cases c38 : x5_4 < (l0_13.length : Int)
             ·rw [if_pos c38] at H
              have c38b0 : decide (x5_4 < (l0_13.length : Int)) = true := decide_eq_true c38
              clear c38
              by_cases c39 : 0 ≤ x5_4
              ·rw [if_pos c39] at H
               have c39b0 : decide (0 ≤ x5_4) = true := decide_eq_true c39
               clear c39
               obtain ⟨t411, A40, H⟩ := bes_ H
               try dsimp only at H
               by_cases c41 : t411 = 0
               ·rw [if_pos c41] at H
                have c41b0 : (t411 == 0) = true := beq_iff_eq.mpr c41
                have c41b1 : (t411 != 0) = false := bne_eq_false_iff_eq.mpr c41
                clear c41
                have H' := am_ H
                clear H
                have hcz42 := cells_14 BK401.out
                have hfz42 := frozen_14 BK401.out
                try go_wp2
                replace BK401 := am_ (blk_drew BK401.out)
                replace HB := am_ (below_drew1 HB.out)
                have p410 : 0 ≤ (x5_4 : Int) := of_decide_eq_true (by first | (with_reducible assumption) | assumption)
                have q410 : x5_4 < (l0_13.length : Int) := of_decide_eq_true (by first | (with_reducible assumption) | assumption)
                obtain ⟨ad410, A410_0, c410_0, A410_1, c410_1, A410_2, c410_2, A410_3, c410_3, A410_4, c410_4, A410_5, c410_5, e410, hx410_0, hx410_1, hx410_2, hx410_3, hx410_4, hx410_5, hl410_0, hi410_0, hl410_1, hi410_1, hl410_2, hi410_2, hl410_3, hi410_3, hl410_4, hi410_4, hl410_5, hi410_5⟩ := at_T44 HR0_13.out x5_4 p410 q410
                have hw410_5 := hx410_5
                have hw410_4 := hx410_4
                have hw410_3 := hx410_3
                have hw410_2 := hx410_2
                have hw410_1 := hx410_1
                have hw410_0 := hx410_0
                cases e410
                replace hx410_0 := (HB.out.cell (World.block_lt_of_cell? w _ hx410_0)).trans hx410_0
                replace hx410_1 := (HB.out.cell (World.block_lt_of_cell? w _ hx410_1)).trans hx410_1
                replace hx410_2 := (HB.out.cell (World.block_lt_of_cell? w _ hx410_2)).trans hx410_2
                replace hx410_3 := (HB.out.cell (World.block_lt_of_cell? w _ hx410_3)).trans hx410_3
                replace hx410_4 := (HB.out.cell (World.block_lt_of_cell? w _ hx410_4)).trans hx410_4
                replace hx410_5 := (HB.out.cell (World.block_lt_of_cell? w _ hx410_5)).trans hx410_5
                have HR410_0 := am_ hi410_0
                have HC410_0 := am_ hl410_0
                clear hi410_0 hl410_0
                have HR410_1 := am_ hi410_1
                have HC410_1 := am_ hl410_1
                clear hi410_1 hl410_1
                have HR410_2 := am_ hi410_2
                have HC410_2 := am_ hl410_2
                clear hi410_2 hl410_2
                have HR410_3 := am_ hi410_3
                have HC410_3 := am_ hl410_3
                clear hi410_3 hl410_3
                have HR410_4 := am_ hi410_4
                have HC410_4 := am_ hl410_4
                clear hi410_4 hl410_4
                have HR410_5 := am_ hi410_5
                have HC410_5 := am_ hl410_5
                clear hi410_5 hl410_5
                replace p410 := eq_true p410
                replace q410 := eq_true q410
                refine start_ (n := 9) (S := fun w' => ce_ w' gb401 0 (.int .i64 a0_0) ∧ ce_ w' gb401 1 (.int .i64 a0_1) ∧ ce_ w' gb401 2 (.int .i64 a0_2) ∧ ce_ w' gb401 3 (.int .i64 a0_3) ∧ ce_ w' gb401 4 (.int .i64 a0_4) ∧ ce_ w' gb401 5 (.int .i64 a0_5) ∧ ce_ w' gb401 6 (.int .i64 a0_6) ∧ ce_ w' gb401 7 (.int .i64 a0_7) ∧ ce_ w' gb401 8 (.int .i64 a0_8) ∧ ce_ w' gb401 9 (.int .i64 a0_9) ∧ ce_ w' gb401 10 (.slice A0_10 l0_10.length c0_10) ∧ ce_ w' gb401 11 (.slice A0_11 l0_11.length c0_11) ∧ ce_ w' gb401 12 (.slice A0_12 l0_12.length c0_12) ∧ ce_ w' gb401 13 (.slice (some ad410) l0_13.length c0_13) ∧ w'.cell? (ad410.add ((x5_4).toNat * 6)) = some (.slice A410_0 ((rd_T44 l0_13 x5_4).f0).length c410_0) ∧ w'.cell? ⟨(ad410.add ((x5_4).toNat * 6)).block, (ad410.add ((x5_4).toNat * 6)).off + 1, none⟩ = some (.slice A410_1 ((rd_T44 l0_13 x5_4).f1).length c410_1) ∧ w'.cell? ⟨(ad410.add ((x5_4).toNat * 6)).block, (ad410.add ((x5_4).toNat * 6)).off + 2, none⟩ = some (.slice A410_2 ((rd_T44 l0_13 x5_4).f2).length c410_2) ∧ w'.cell? ⟨(ad410.add ((x5_4).toNat * 6)).block, (ad410.add ((x5_4).toNat * 6)).off + 3, none⟩ = some (.slice A410_3 ((rd_T44 l0_13 x5_4).f3).length c410_3) ∧ w'.cell? ⟨(ad410.add ((x5_4).toNat * 6)).block, (ad410.add ((x5_4).toNat * 6)).off + 4, none⟩ = some (.slice A410_4 ((rd_T44 l0_13 x5_4).f4).length c410_4) ∧ w'.cell? ⟨(ad410.add ((x5_4).toNat * 6)).block, (ad410.add ((x5_4).toNat * 6)).off + 5, none⟩ = some (.slice A410_5 ((rd_T44 l0_13 x5_4).f5).length c410_5)) (ds := []) #[false, false, false, false, false, false, false, false, false] (by kernel_rfl) rfl rfl ⟨(blk_cell BK401.out 0).trans rfl, (blk_cell BK401.out 1).trans rfl, (blk_cell BK401.out 2).trans rfl, (blk_cell BK401.out 3).trans rfl, (blk_cell BK401.out 4).trans rfl, (blk_cell BK401.out 5).trans rfl, (blk_cell BK401.out 6).trans rfl, (blk_cell BK401.out 7).trans rfl, (blk_cell BK401.out 8).trans rfl, (blk_cell BK401.out 9).trans rfl, (blk_cell BK401.out 10).trans rfl, (blk_cell BK401.out 11).trans rfl, (blk_cell BK401.out 12).trans rfl, (blk_cell BK401.out 13).trans rfl, ((HB.out.cell (World.block_lt_of_cell? w _ hw410_0)).trans hw410_0), ((HB.out.cell (World.block_lt_of_cell? w _ hw410_1)).trans hw410_1), ((HB.out.cell (World.block_lt_of_cell? w _ hw410_2)).trans hw410_2), ((HB.out.cell (World.block_lt_of_cell? w _ hw410_3)).trans hw410_3), ((HB.out.cell (World.block_lt_of_cell? w _ hw410_4)).trans hw410_4), ((HB.out.cell (World.block_lt_of_cell? w _ hw410_5)).trans hw410_5)⟩ (fun hHeld => ?_); refine with_tabW r33_Right.tab18 r33_Right.bits18 (fun HT_ HW_ => ?_)
                generalize wr.drew = w43 at BK401 HB HR410_0 HR410_1 HR410_2 HR410_3 HR410_4 HR410_5 hx410_0 hx410_1 hx410_2 hx410_3 hx410_4 hx410_5 hHeld ⊢
                refine pur_ 0 (some 76) rfl rfl (any_of HT_.out (by kernel_rfl)) ?_
                refine pur_ 2 (some 78) rfl rfl (any_of HT_.out (by kernel_rfl)) ?_
                refine pur_ 4 (some 80) rfl rfl (any_of HT_.out (by kernel_rfl)) ?_
                refine tak_ 1 (some 77) rfl rfl (take_ofW HT_.out HW_.out (by kernel_rfl)) hHeld ?_ (by rintro w' ⟨s0, s1, s2, s3, s4, s5, s6, s7, s8, s9, s10, s11, s12, s13, s14, s15, s16, s17, s18, s19⟩; (first | (refine load_cells_14 (ty := 28) (x := .tmp 1) (g := gb401) ?hlo_ ?hx_ Try.underlying28 ?hd_ ?hi_ s0 s1 s2 s3 s4 s5 s6 s7 s8 s9 s10 s11 s12 s13; (case hlo_ => rfl); (case hx_ => rfl); (case hd_ => rfl); (case hi_ => kernel_rfl)) | (go_simp; with_reducible rfl)))
                refine tak_ 3 (some 79) rfl rfl (take_ofW HT_.out HW_.out (by kernel_rfl)) hHeld ?_ (by rintro w' ⟨s0, s1, s2, s3, s4, s5, s6, s7, s8, s9, s10, s11, s12, s13, s14, s15, s16, s17, s18, s19⟩; (first | (refine load_cells_14 (ty := 28) (x := .tmp 1) (g := gb401) ?hlo_ ?hx_ Try.underlying28 ?hd_ ?hi_ s0 s1 s2 s3 s4 s5 s6 s7 s8 s9 s10 s11 s12 s13; (case hlo_ => rfl); (case hx_ => rfl); (case hd_ => rfl); (case hi_ => kernel_rfl)) | (go_simp; with_reducible rfl)))
                refine pur_ 5 (some 81) rfl rfl (any_of HT_.out (by kernel_rfl)) ?_
                refine tak_ 6 (some 82) rfl rfl (take_ofW HT_.out HW_.out (by kernel_rfl)) hHeld ?_ (by rintro w' ⟨s0, s1, s2, s3, s4, s5, s6, s7, s8, s9, s10, s11, s12, s13, s14, s15, s16, s17, s18, s19⟩; (first | (refine load_cells_14 (ty := 28) (x := .tmp 1) (g := gb401) ?hlo_ ?hx_ Try.underlying28 ?hd_ ?hi_ s0 s1 s2 s3 s4 s5 s6 s7 s8 s9 s10 s11 s12 s13; (case hlo_ => rfl); (case hx_ => rfl); (case hd_ => rfl); (case hi_ => kernel_rfl)) | (go_simp; with_reducible rfl)))
                refine oon_ 7 (some 83) rfl rfl (one_of HT_.out (by kernel_rfl)) (fun K hK => ?_)
                refine gos_ Try.func45 (r33_tick.calls k4 a0_0 a0_1 a0_2 a0_3 a0_4 a0_5 a0_6 a0_7 a0_8 a0_9 _ _ l0_10 _ _ ((rd_T44 l0_13 x5_4).f0) _ _ ((rd_T44 l0_13 x5_4).f1) _ _ ((rd_T44 l0_13 x5_4).f2) _ _ ((rd_T44 l0_13 x5_4).f3) _ _ ((rd_T44 l0_13 x5_4).f4) _ _ ((rd_T44 l0_13 x5_4).f5) _ _ (Kd.C_below HR0_10.out HB.out) HC0_10.out ?side3 ?side4 ?side5 ?side6 ?side7 ?side8 ?side9 ?side10 ?side11 ?side12 ?side13 ?side14 A40.out) ?_
                (case side3 => exact (Kd.C_below HR410_0.out HB.out))
                (case side4 => exact HC410_0.out)
                (case side5 => exact (Kd.C_below HR410_1.out HB.out))
                (case side6 => exact HC410_1.out)
                (case side7 => exact (Kd.C_below HR410_2.out HB.out))
                (case side8 => exact HC410_2.out)
                (case side9 => exact (Kd.C_below HR410_3.out HB.out))
                (case side10 => exact HC410_3.out)
                (case side11 => exact (Kd.C_below HR410_4.out HB.out))
                (case side12 => exact HC410_4.out)
                (case side13 => exact (Kd.C_below HR410_5.out HB.out))
                (case side14 => exact HC410_5.out)
                rintro e w44 ⟨rfl, hb⟩
                refine ⟨_, rfl, ?_⟩
                replace BK401 := bkb_ BK401 hb
                replace HB := bst_ HB hb
                (try clear hb)
                (try clear hb2)
                (try clear hk)
                (try clear hi)
                refine hK.out _ _ (and_14 BK401.out ⟨((HB.out.cell (World.block_lt_of_cell? w _ hw410_0)).trans hw410_0), ((HB.out.cell (World.block_lt_of_cell? w _ hw410_1)).trans hw410_1), ((HB.out.cell (World.block_lt_of_cell? w _ hw410_2)).trans hw410_2), ((HB.out.cell (World.block_lt_of_cell? w _ hw410_3)).trans hw410_3), ((HB.out.cell (World.block_lt_of_cell? w _ hw410_4)).trans hw410_4), ((HB.out.cell (World.block_lt_of_cell? w _ hw410_5)).trans hw410_5)⟩) (fun hHeld => ?_)
                clear hK K
                refine nor_ 83 ?_
                refine pur_ 8 (some 6) rfl rfl (any_of HT_.out (by kernel_rfl)) ?_
                refine done_ (done_of HT_.out (by kernel_rfl)) ?_
                try go_wp2
                go_roundg k4
                case measure => have := HK1.out; have := HJ25.out; have := HK3.out; have := HK4.out; omega
                case rel => exact ⟨(wrap64 (x5_4 + 1)), (by first | rfl | (simp; done) | (simp [*]; done)), H', ⟨by have := HK1.out; have := HJ25.out; have := HK3.out; have := HK4.out; omega⟩, ⟨by (with_reducible repeat (first | apply kn_ | apply kd_ | apply ka_)); exact BK401.out⟩, ⟨by repeat (first | (with_reducible first | exact HB.out | apply ba_ | apply bn_ | apply bd_ | refine bs_ ?_ GE401.out) | exact HB.out)⟩⟩
               ·rw [if_neg c41] at H
                have c41b0 : (t411 == 0) = false := beq_eq_false_iff_ne.mpr c41
                have c41b1 : (t411 != 0) = true := bne_iff_ne.mpr c41
                obtain rfl := Option.some.inj H
                have hcz45 := cells_14 BK401.out
                have hfz45 := frozen_14 BK401.out
                try go_wp2
                replace BK401 := am_ (blk_drew BK401.out)
                replace HB := am_ (below_drew1 HB.out)
                have p410 : 0 ≤ (x5_4 : Int) := of_decide_eq_true (by first | (with_reducible assumption) | assumption)
                have q410 : x5_4 < (l0_13.length : Int) := of_decide_eq_true (by first | (with_reducible assumption) | assumption)
                obtain ⟨ad410, A410_0, c410_0, A410_1, c410_1, A410_2, c410_2, A410_3, c410_3, A410_4, c410_4, A410_5, c410_5, e410, hx410_0, hx410_1, hx410_2, hx410_3, hx410_4, hx410_5, hl410_0, hi410_0, hl410_1, hi410_1, hl410_2, hi410_2, hl410_3, hi410_3, hl410_4, hi410_4, hl410_5, hi410_5⟩ := at_T44 HR0_13.out x5_4 p410 q410
                have hw410_5 := hx410_5
                have hw410_4 := hx410_4
                have hw410_3 := hx410_3
                have hw410_2 := hx410_2
                have hw410_1 := hx410_1
                have hw410_0 := hx410_0
                cases e410
                replace hx410_0 := (HB.out.cell (World.block_lt_of_cell? w _ hx410_0)).trans hx410_0
                replace hx410_1 := (HB.out.cell (World.block_lt_of_cell? w _ hx410_1)).trans hx410_1
                replace hx410_2 := (HB.out.cell (World.block_lt_of_cell? w _ hx410_2)).trans hx410_2
                replace hx410_3 := (HB.out.cell (World.block_lt_of_cell? w _ hx410_3)).trans hx410_3
                replace hx410_4 := (HB.out.cell (World.block_lt_of_cell? w _ hx410_4)).trans hx410_4
                replace hx410_5 := (HB.out.cell (World.block_lt_of_cell? w _ hx410_5)).trans hx410_5
                have HR410_0 := am_ hi410_0
                have HC410_0 := am_ hl410_0
                clear hi410_0 hl410_0
                have HR410_1 := am_ hi410_1
                have HC410_1 := am_ hl410_1
                clear hi410_1 hl410_1
                have HR410_2 := am_ hi410_2
                have HC410_2 := am_ hl410_2
                clear hi410_2 hl410_2
                have HR410_3 := am_ hi410_3
                have HC410_3 := am_ hl410_3
                clear hi410_3 hl410_3
                have HR410_4 := am_ hi410_4
                have HC410_4 := am_ hl410_4
                clear hi410_4 hl410_4
                have HR410_5 := am_ hi410_5
                have HC410_5 := am_ hl410_5
                clear hi410_5 hl410_5
                replace p410 := eq_true p410
                replace q410 := eq_true q410
                refine start_ (n := 9) (S := fun w' => ce_ w' gb401 0 (.int .i64 a0_0) ∧ ce_ w' gb401 1 (.int .i64 a0_1) ∧ ce_ w' gb401 2 (.int .i64 a0_2) ∧ ce_ w' gb401 3 (.int .i64 a0_3) ∧ ce_ w' gb401 4 (.int .i64 a0_4) ∧ ce_ w' gb401 5 (.int .i64 a0_5) ∧ ce_ w' gb401 6 (.int .i64 a0_6) ∧ ce_ w' gb401 7 (.int .i64 a0_7) ∧ ce_ w' gb401 8 (.int .i64 a0_8) ∧ ce_ w' gb401 9 (.int .i64 a0_9) ∧ ce_ w' gb401 10 (.slice A0_10 l0_10.length c0_10) ∧ ce_ w' gb401 11 (.slice A0_11 l0_11.length c0_11) ∧ ce_ w' gb401 12 (.slice A0_12 l0_12.length c0_12) ∧ ce_ w' gb401 13 (.slice (some ad410) l0_13.length c0_13) ∧ w'.cell? (ad410.add ((x5_4).toNat * 6)) = some (.slice A410_0 ((rd_T44 l0_13 x5_4).f0).length c410_0) ∧ w'.cell? ⟨(ad410.add ((x5_4).toNat * 6)).block, (ad410.add ((x5_4).toNat * 6)).off + 1, none⟩ = some (.slice A410_1 ((rd_T44 l0_13 x5_4).f1).length c410_1) ∧ w'.cell? ⟨(ad410.add ((x5_4).toNat * 6)).block, (ad410.add ((x5_4).toNat * 6)).off + 2, none⟩ = some (.slice A410_2 ((rd_T44 l0_13 x5_4).f2).length c410_2) ∧ w'.cell? ⟨(ad410.add ((x5_4).toNat * 6)).block, (ad410.add ((x5_4).toNat * 6)).off + 3, none⟩ = some (.slice A410_3 ((rd_T44 l0_13 x5_4).f3).length c410_3) ∧ w'.cell? ⟨(ad410.add ((x5_4).toNat * 6)).block, (ad410.add ((x5_4).toNat * 6)).off + 4, none⟩ = some (.slice A410_4 ((rd_T44 l0_13 x5_4).f4).length c410_4) ∧ w'.cell? ⟨(ad410.add ((x5_4).toNat * 6)).block, (ad410.add ((x5_4).toNat * 6)).off + 5, none⟩ = some (.slice A410_5 ((rd_T44 l0_13 x5_4).f5).length c410_5)) (ds := []) #[false, false, false, false, false, false, false, false, false] (by kernel_rfl) rfl rfl ⟨(blk_cell BK401.out 0).trans rfl, (blk_cell BK401.out 1).trans rfl, (blk_cell BK401.out 2).trans rfl, (blk_cell BK401.out 3).trans rfl, (blk_cell BK401.out 4).trans rfl, (blk_cell BK401.out 5).trans rfl, (blk_cell BK401.out 6).trans rfl, (blk_cell BK401.out 7).trans rfl, (blk_cell BK401.out 8).trans rfl, (blk_cell BK401.out 9).trans rfl, (blk_cell BK401.out 10).trans rfl, (blk_cell BK401.out 11).trans rfl, (blk_cell BK401.out 12).trans rfl, (blk_cell BK401.out 13).trans rfl, ((HB.out.cell (World.block_lt_of_cell? w _ hw410_0)).trans hw410_0), ((HB.out.cell (World.block_lt_of_cell? w _ hw410_1)).trans hw410_1), ((HB.out.cell (World.block_lt_of_cell? w _ hw410_2)).trans hw410_2), ((HB.out.cell (World.block_lt_of_cell? w _ hw410_3)).trans hw410_3), ((HB.out.cell (World.block_lt_of_cell? w _ hw410_4)).trans hw410_4), ((HB.out.cell (World.block_lt_of_cell? w _ hw410_5)).trans hw410_5)⟩ (fun hHeld => ?_); refine with_tabW r33_Right.tab18 r33_Right.bits18 (fun HT_ HW_ => ?_)
                generalize wr.drew = w46 at BK401 HB HR410_0 HR410_1 HR410_2 HR410_3 HR410_4 HR410_5 hx410_0 hx410_1 hx410_2 hx410_3 hx410_4 hx410_5 hHeld ⊢
                refine pur_ 0 (some 76) rfl rfl (any_of HT_.out (by kernel_rfl)) ?_
                refine pur_ 2 (some 78) rfl rfl (any_of HT_.out (by kernel_rfl)) ?_
                refine pur_ 4 (some 80) rfl rfl (any_of HT_.out (by kernel_rfl)) ?_
                refine tak_ 1 (some 77) rfl rfl (take_ofW HT_.out HW_.out (by kernel_rfl)) hHeld ?_ (by rintro w' ⟨s0, s1, s2, s3, s4, s5, s6, s7, s8, s9, s10, s11, s12, s13, s14, s15, s16, s17, s18, s19⟩; (first | (refine load_cells_14 (ty := 28) (x := .tmp 1) (g := gb401) ?hlo_ ?hx_ Try.underlying28 ?hd_ ?hi_ s0 s1 s2 s3 s4 s5 s6 s7 s8 s9 s10 s11 s12 s13; (case hlo_ => rfl); (case hx_ => rfl); (case hd_ => rfl); (case hi_ => kernel_rfl)) | (go_simp; with_reducible rfl)))
                refine tak_ 3 (some 79) rfl rfl (take_ofW HT_.out HW_.out (by kernel_rfl)) hHeld ?_ (by rintro w' ⟨s0, s1, s2, s3, s4, s5, s6, s7, s8, s9, s10, s11, s12, s13, s14, s15, s16, s17, s18, s19⟩; (first | (refine load_cells_14 (ty := 28) (x := .tmp 1) (g := gb401) ?hlo_ ?hx_ Try.underlying28 ?hd_ ?hi_ s0 s1 s2 s3 s4 s5 s6 s7 s8 s9 s10 s11 s12 s13; (case hlo_ => rfl); (case hx_ => rfl); (case hd_ => rfl); (case hi_ => kernel_rfl)) | (go_simp; with_reducible rfl)))
                refine pur_ 5 (some 81) rfl rfl (any_of HT_.out (by kernel_rfl)) ?_
                refine tak_ 6 (some 82) rfl rfl (take_ofW HT_.out HW_.out (by kernel_rfl)) hHeld ?_ (by rintro w' ⟨s0, s1, s2, s3, s4, s5, s6, s7, s8, s9, s10, s11, s12, s13, s14, s15, s16, s17, s18, s19⟩; (first | (refine load_cells_14 (ty := 28) (x := .tmp 1) (g := gb401) ?hlo_ ?hx_ Try.underlying28 ?hd_ ?hi_ s0 s1 s2 s3 s4 s5 s6 s7 s8 s9 s10 s11 s12 s13; (case hlo_ => rfl); (case hx_ => rfl); (case hd_ => rfl); (case hi_ => kernel_rfl)) | (go_simp; with_reducible rfl)))
                refine oon_ 7 (some 83) rfl rfl (one_of HT_.out (by kernel_rfl)) (fun K hK => ?_)
                refine gos_ Try.func45 (r33_tick.calls k4 a0_0 a0_1 a0_2 a0_3 a0_4 a0_5 a0_6 a0_7 a0_8 a0_9 _ _ l0_10 _ _ ((rd_T44 l0_13 x5_4).f0) _ _ ((rd_T44 l0_13 x5_4).f1) _ _ ((rd_T44 l0_13 x5_4).f2) _ _ ((rd_T44 l0_13 x5_4).f3) _ _ ((rd_T44 l0_13 x5_4).f4) _ _ ((rd_T44 l0_13 x5_4).f5) _ _ (Kd.C_below HR0_10.out HB.out) HC0_10.out ?side3 ?side4 ?side5 ?side6 ?side7 ?side8 ?side9 ?side10 ?side11 ?side12 ?side13 ?side14 A40.out) ?_
                (case side3 => exact (Kd.C_below HR410_0.out HB.out))
                (case side4 => exact HC410_0.out)
                (case side5 => exact (Kd.C_below HR410_1.out HB.out))
                (case side6 => exact HC410_1.out)
                (case side7 => exact (Kd.C_below HR410_2.out HB.out))
                (case side8 => exact HC410_2.out)
                (case side9 => exact (Kd.C_below HR410_3.out HB.out))
                (case side10 => exact HC410_3.out)
                (case side11 => exact (Kd.C_below HR410_4.out HB.out))
                (case side12 => exact HC410_4.out)
                (case side13 => exact (Kd.C_below HR410_5.out HB.out))
                (case side14 => exact HC410_5.out)
                rintro e w47 ⟨rfl, hb⟩
                refine ⟨_, rfl, ?_⟩
                replace BK401 := bkb_ BK401 hb
                replace HB := bst_ HB hb
                (try clear hb)
                (try clear hb2)
                (try clear hk)
                (try clear hi)
                refine hK.out _ _ (and_14 BK401.out ⟨((HB.out.cell (World.block_lt_of_cell? w _ hw410_0)).trans hw410_0), ((HB.out.cell (World.block_lt_of_cell? w _ hw410_1)).trans hw410_1), ((HB.out.cell (World.block_lt_of_cell? w _ hw410_2)).trans hw410_2), ((HB.out.cell (World.block_lt_of_cell? w _ hw410_3)).trans hw410_3), ((HB.out.cell (World.block_lt_of_cell? w _ hw410_4)).trans hw410_4), ((HB.out.cell (World.block_lt_of_cell? w _ hw410_5)).trans hw410_5)⟩) (fun hHeld => ?_)
                clear hK K
                refine nor_ 83 ?_
                refine pur_ 8 (some 6) rfl rfl (any_of HT_.out (by kernel_rfl)) ?_
                refine done_ (done_of HT_.out (by kernel_rfl)) ?_
                try go_wp2
                go_ret
                exact ⟨by first | rfl | (simp [*] <;> rfl), by repeat (first | (with_reducible first | exact HB.out | apply ba_ | apply bn_ | apply bd_ | refine bs_ ?_ GE401.out) | exact HB.out)⟩
              ·rw [if_neg c39] at H
               exact absurd H (by simp)
             ·rw [if_neg c38] at H
              have c38b0 : decide (x5_4 < (l0_13.length : Int)) = false := decide_eq_false c38
              clear c38
              obtain rfl := Option.some.inj H
              have hcz48 := cells_14 BK401.out
              have hfz48 := frozen_14 BK401.out
              go_wp2
              go_ret
              exact ⟨by first | rfl | (simp [*] <;> rfl), by repeat (first | (with_reducible first | exact HB.out | apply ba_ | apply bn_ | apply bd_ | refine bs_ ?_ GE401.out) | exact HB.out)⟩
 ·rw [if_neg c3] at H
  have c3b0 : (t402 == 0) = false := beq_eq_false_iff_ne.mpr c3
  have c3b1 : (t402 != 0) = true := bne_iff_ne.mpr c3
  replace H := Option.bind_eq_some_iff.mp H
  obtain ⟨t403, A490, H⟩ := H
  replace H : (some t403) = some r := H
  have A49 := am_ A490
  clear A490
  obtain rfl := Option.some.inj H
  go_enter Try.func13, Try.ntmps13
  go_wp2_with (first | ((with_reducible refine gate_load (t := 28) (x := .tmp 1) rfl ?_); refine lrg_ 28 (.tmp 1) gb401 28 (by exact BK401.out) Try.underlying28 ?_) | ((with_reducible refine gate_dst (N := 1) rfl ?_); (try (refine gate_guard (by rfl) ?_; dsimp only)); refine bxe_ 1 28 #[.int .i64 a0_0, .int .i64 a0_1, .int .i64 a0_2, .int .i64 a0_3, .int .i64 a0_4, .int .i64 a0_5, .int .i64 a0_6, .int .i64 a0_7, .int .i64 a0_8, .int .i64 a0_9, .slice A0_10 l0_10.length c0_10, .slice A0_11 l0_11.length c0_11, .slice A0_12 l0_12.length c0_12, .slice A0_13 l0_13.length c0_13] ?_; intro gb401 hg w50 hbox hb; have BK401 := am_ (hbox); have GW401 := gwk_ HB hg; have GE401 := GW401; replace HB := bst_ HB hb; clear hb hbox hg; have hall3_ := cells_14 BK401.out; have hall4_ := frozen_14 BK401.out) | ((with_reducible refine gate_callee (f := 42) rfl ?_); refine gom_ (some 9) Try.func42 (r04_Right.calls k a0_0 a0_1 a0_2 a0_3 a0_4 a0_5 a0_6 a0_7 a0_8 a0_9 _ _ l0_10 _ _ (Kd.C_below HR0_10.out HB.out) HC0_10.out A2.out) ?_; rintro e w52 ⟨rfl, hb⟩; refine ⟨_, rfl, ?_⟩; replace BK401 := bkb_ BK401 hb; replace HB := bst_ HB hb; (try clear hb); have hall5_ := cells_14 BK401.out; have hall6_ := frozen_14 BK401.out) | ((with_reducible refine gate_callee (f := 42) rfl ?_); refine gom_ (some 13) Try.func42 (r04_Right.calls k a0_0 a0_1 a0_2 a0_3 a0_4 a0_5 a0_6 a0_7 a0_8 a0_9 _ _ l0_10 _ _ (Kd.C_below HR0_10.out HB.out) HC0_10.out A49.out) ?_; rintro e w54 ⟨rfl, hb⟩; refine ⟨_, rfl, ?_⟩; replace BK401 := bkb_ BK401 hb; replace HB := bst_ HB hb; (try clear hb)))
  go_ret
  exact ⟨by first | rfl | (simp [*] <;> rfl), by repeat (first | (with_reducible first | exact HB.out | apply ba_ | apply bn_ | apply bd_ | refine bs_ ?_ GE401.out) | exact HB.out)⟩
end Go.Proofs.Ythdoghhmooodjaa.Gn
