import Derived.Test.YthdoghhmooodjaaZScriptRightGn0
import Derived.Test.YthdoghhmooodjaaZScriptRightGn1
import Derived.Test.YthdoghhmooodjaaZScriptRightGn31
import Derived.Test.YthdoghhmooodjaaZScriptRightGn32
import Derived.Test.YthdoghhmooodjaaZScriptRightGn33
namespace Go.Proofs.Ythdoghhmooodjaa.Gn
open Go.RowKit Go.Proofs.YthdoghhmooodjaaW.PrintWords Go.Proofs.YthdoghhmooodjaaW.PrintLast Go.Proofs.YthdoghhmooodjaaW.PrintMore
attribute [local go_sem] max2_int min2_int max_two min_two max_three min_three max_four min_four   -- for this text's walks alone
set_option linter.unusedVariables false
set_option linter.unusedSimpArgs false
mutual
def r33_tick.j0 : Nat → Bool → Int → Int → Int → Int → Int → Int → Int → Int → Int → Int → List Int → List Int → List Int → List (S74) → List (S48) → List (S74) → List (S81) → Option (Int)
 | 0, _, _, _, _, _, _, _, _, _, _, _, _, _, _, _, _, _, _ => none
 | k + 1, x36, x402000, x402001, x402002, x402003, x402004, x402005, x402006, x402007, x402008, x402009, x402010, x403000, x403001, x403002, x403003, x403004, x403005 => if x36 = true then (some 2) else (if (x403002.length : Int) > 40 then (r33_tick.j1 k true x402000 x402001 x402002 x402003 x402004 x402005 x402006 x402007 x402008 x402009 x402010 x403000 x403001 x403002 x403003 x403004 x403005) else (if (x403003.length : Int) > 40 then (r33_tick.j1 k true x402000 x402001 x402002 x402003 x402004 x402005 x402006 x402007 x402008 x402009 x402010 x403000 x403001 x403002 x403003 x403004 x403005) else (if (x403004.length : Int) > 40 then (r33_tick.j1 k true x402000 x402001 x402002 x402003 x402004 x402005 x402006 x402007 x402008 x402009 x402010 x403000 x403001 x403002 x403003 x403004 x403005) else (r33_tick.j1 k (decide ((x403005.length : Int) > 40)) x402000 x402001 x402002 x402003 x402004 x402005 x402006 x402007 x402008 x402009 x402010 x403000 x403001 x403002 x403003 x403004 x403005))))
def r33_tick.j1 : Nat → Bool → Int → Int → Int → Int → Int → Int → Int → Int → Int → Int → List Int → List Int → List Int → List (S74) → List (S48) → List (S74) → List (S81) → Option (Int)
 | 0, _, _, _, _, _, _, _, _, _, _, _, _, _, _, _, _, _, _ => none
 | k + 1, x58, x402000, x402001, x402002, x402003, x402004, x402005, x402006, x402007, x402008, x402009, x402010, x403000, x403001, x403002, x403003, x403004, x403005 => if x58 = true then (some 9) else ((r33_nodes.f k x402000 x402001 x402002 x402003 x402004 x402005 x402006 x402007 x402008 x402009 x402010 x403000 x403001 x403002 x403003 x403004 x403005).bind fun t409 => (if t409 = true then ((r33_long.f k x403000 x403001 x403002 x403003 x403004 x403005).bind fun t410 => (if t410 = true then (some 6) else (r33_tick.l0 k x403005 (x403005.length : Int) 0))) else (some 7)))
def r33_tick.l0 : Nat → List (S81) → Int → Int → Option (Int)
 | 0, _, _, _ => none
 | k + 1, x66, x67, x68 => if x68 < x67 then (if 0 ≤ x68 then (if x68 < (x66.length : Int) then (if (((rd_T81 x66 x68).f1).size : Int) > 16 then (some 15) else (r33_tick.l0 k x66 x67 (wrap64 (x68 + 1)))) else (none)) else (none)) else (some 0)
end
def r33_tick.f (k : Nat) (a0_0 a0_1 a0_2 a0_3 a0_4 a0_5 a0_6 a0_7 a0_8 a0_9 : Int) (l0_10 l1_0 l1_1 : List Int) (l1_2 : List (S74)) (l1_3 : List (S48)) (l1_4 : List (S74)) (l1_5 : List (S81)) : Option (Int) := (r33_within.f k l1_0 a0_0).bind fun t403 => (if t403 = true then ((r33_within.f k l1_1 (wrap64 (a0_0 * a0_0))).bind fun t404 => (if t404 = true then ((r33_waits.f k l1_0 l1_1 l1_2 l1_3 l1_4 l1_5).bind fun t405 => ((r33_within.f k t405 (wrap64 ((l1_2.length : Int) + (l1_4.length : Int)))).bind fun t408 => (r33_tick.j0 k (!t408) a0_0 a0_1 a0_2 a0_3 a0_4 a0_5 a0_6 a0_7 a0_8 a0_9 l0_10 l1_0 l1_1 l1_2 l1_3 l1_4 l1_5))) else (r33_tick.j0 k true a0_0 a0_1 a0_2 a0_3 a0_4 a0_5 a0_6 a0_7 a0_8 a0_9 l0_10 l1_0 l1_1 l1_2 l1_3 l1_4 l1_5))) else (r33_tick.j0 k true a0_0 a0_1 a0_2 a0_3 a0_4 a0_5 a0_6 a0_7 a0_8 a0_9 l0_10 l1_0 l1_1 l1_2 l1_3 l1_4 l1_5))
def r33_tick.T1 : Bool × List (List Nat × List Nat) := (true, [([], []), ([0], [0]), ([], []), ([2], [2]), ([1, 3], [1, 3]), ([4], [4]), ([5, 4], [5]), ([6], [6]), ([7, 6], [6, 7]), ([6], [6]), ([9, 6], [6, 9]), ([6], [6]), ([11, 6], [6, 11]), ([10, 12, 6], [6, 10, 12]), ([8, 13, 6, 6], [6, 8, 13]), ([14, 6], [6, 14]), ([6, 15], [6, 15]), ([16, 14], [16]), ([17], [17]), ([18, 17, 17], [17, 18]), ([17], [17]), ([20, 17], [17, 20]), ([21, 17], [17, 21]), ([17], [17]), ([23, 17], [17, 23]), ([24, 17], [17, 24]), ([22, 25, 17], [17, 22, 25]), ([19, 26, 19, 17], [17, 19, 26]), ([27, 17], [17, 27]), ([17, 28], [17, 28])])
def r33_tick.B1 : List Nat := [0, 1, 0, 4, 15, 31, 63, 127, 255, 127, 639, 127, 2175, 7807, 16383, 32767, 65535, 131071, 262143, 524287, 262143, 1310719, 3407871, 262143, 8650751, 25427967, 66322431, 134217727, 268435455, 536870911]
theorem r33_tick.tab1 : rtab .any (opsOf Try.f45 1) = r33_tick.T1 := by kernel_rfl
theorem r33_tick.bits1 : waitsOk r33_tick.T1.2 r33_tick.B1 = true := by kernel_rfl
set_option maxHeartbeats 8000000 in
set_option maxRecDepth 100000 in
theorem r33_tick.calls (k : Nat) (a0_0 a0_1 a0_2 a0_3 a0_4 a0_5 a0_6 a0_7 a0_8 a0_9 : Int) (A0_10 : Option Addr) (c0_10 : Nat) (l0_10 : List Int) (A1_0 : Option Addr) (c1_0 : Nat) (l1_0 : List Int) (A1_1 : Option Addr) (c1_1 : Nat) (l1_1 : List Int) (A1_2 : Option Addr) (c1_2 : Nat) (l1_2 : List (S74)) (A1_3 : Option Addr) (c1_3 : Nat) (l1_3 : List (S48)) (A1_4 : Option Addr) (c1_4 : Nat) (l1_4 : List (S74)) (A1_5 : Option Addr) (c1_5 : Nat) (l1_5 : List (S81)) (r : Int) (w : World) (hr0_10 : Kd.C (Kd.int .i64) w A0_10 l0_10.length l0_10) (hc0_10 : l0_10.length ≤ c0_10) (hr1_0 : Kd.C (Kd.int .i64) w A1_0 l1_0.length l1_0) (hc1_0 : l1_0.length ≤ c1_0) (hr1_1 : Kd.C (Kd.int .i64) w A1_1 l1_1.length l1_1) (hc1_1 : l1_1.length ≤ c1_1) (hr1_2 : Kd.C k74 w A1_2 l1_2.length l1_2) (hc1_2 : l1_2.length ≤ c1_2) (hr1_3 : Kd.C k48 w A1_3 l1_3.length l1_3) (hc1_3 : l1_3.length ≤ c1_3) (hr1_4 : Kd.C k74 w A1_4 l1_4.length l1_4) (hc1_4 : l1_4.length ≤ c1_4) (hr1_5 : Kd.C k81 w A1_5 l1_5.length l1_5) (hc1_5 : l1_5.length ≤ c1_5) (h : r33_tick.f k a0_0 a0_1 a0_2 a0_3 a0_4 a0_5 a0_6 a0_7 a0_8 a0_9 l0_10 l1_0 l1_1 l1_2 l1_3 l1_4 l1_5 = some r) :
  Calls Try.prog 45 #[.agg #[.int .i64 a0_0, .int .i64 a0_1, .int .i64 a0_2, .int .i64 a0_3, .int .i64 a0_4, .int .i64 a0_5, .int .i64 a0_6, .int .i64 a0_7, .int .i64 a0_8, .int .i64 a0_9, .slice A0_10 l0_10.length c0_10], .agg #[.slice A1_0 l1_0.length c1_0, .slice A1_1 l1_1.length c1_1, .slice A1_2 l1_2.length c1_2, .slice A1_3 l1_3.length c1_3, .slice A1_4 l1_4.length c1_4, .slice A1_5 l1_5.length c1_5]] w fun e w' => e = .returned (.int .i64 r) ∧ Below w.heap.size w w' := by
 have hu24 := Try.underlying24
 have hu44 := Try.underlying44
 have hu81 := Try.underlying81
 have HR0_10 := am_ hr0_10
 have HC0_10 := am_ hc0_10
 clear hr0_10 hc0_10
 have HR1_0 := am_ hr1_0
 have HC1_0 := am_ hc1_0
 clear hr1_0 hc1_0
 have HR1_1 := am_ hr1_1
 have HC1_1 := am_ hc1_1
 clear hr1_1 hc1_1
 have HR1_2 := am_ hr1_2
 have HC1_2 := am_ hc1_2
 clear hr1_2 hc1_2
 have HR1_3 := am_ hr1_3
 have HC1_3 := am_ hc1_3
 clear hr1_3 hc1_3
 have HR1_4 := am_ hr1_4
 have HC1_4 := am_ hc1_4
 clear hr1_4 hc1_4
 have HR1_5 := am_ hr1_5
 have HC1_5 := am_ hc1_5
 clear hr1_5 hc1_5
 have HB := am_ (Below.refl w.heap.size w)
 have H := h
 unfold r33_tick.f at H
 clear h
 have HC3 := am_ H
 clear H
 go_enter Try.func45, Try.ntmps45
 go_upto_region 1 with (first | ((with_reducible refine gate_dst (N := 2) rfl ?_); (try (refine gate_guard (by rfl) ?_; dsimp only)); refine bxe_ 2 24 #[.int .i64 a0_0, .int .i64 a0_1, .int .i64 a0_2, .int .i64 a0_3, .int .i64 a0_4, .int .i64 a0_5, .int .i64 a0_6, .int .i64 a0_7, .int .i64 a0_8, .int .i64 a0_9, .slice A0_10 l0_10.length c0_10] ?_; intro gb401 hg w4 hbox hb; have q0_ := below_of hb (by repeat (first | (with_reducible first | exact HB.out | apply ba_ | apply bn_ | apply bd_) | exact HB.out)); have BK401 := am_ (hbox); have GW401 := am_ ((by rw [hg]; exact (below_size q0_) : w.heap.size ≤ gb401)); have GE401 := GW401; replace HB := am_ (below_step q0_ hb); clear q0_; clear hb hbox hg) | ((with_reducible refine gate_dst (N := 3) rfl ?_); (try (refine gate_guard (by rfl) ?_; dsimp only)); refine bxe_ 3 44 #[.slice A1_0 l1_0.length c1_0, .slice A1_1 l1_1.length c1_1, .slice A1_2 l1_2.length c1_2, .slice A1_3 l1_3.length c1_3, .slice A1_4 l1_4.length c1_4, .slice A1_5 l1_5.length c1_5] ?_; intro gb402 hg w5 hbox hb; have q0_ := below_of hb (by repeat (first | (with_reducible first | exact HB.out | apply ba_ | apply bn_ | apply bd_ | refine bs_ ?_ GE401.out) | exact HB.out)); have BK402 := am_ (hbox); have GW402 := am_ ((by rw [hg]; exact (below_size q0_) : w.heap.size ≤ gb402)); have GE402 := GW402; replace HB := am_ (below_step q0_ hb); have NB401_402 := am_ ((by rw [hg]; exact Nat.ne_of_lt (blk_lt (by (with_reducible repeat (first | apply kn_ | apply kd_ | apply ka_)); exact BK401.out)) : gb401 ≠ gb402)); have NB402_401 := nbs_ NB401_402; replace BK401 := am_ (blk_below (by (with_reducible repeat (first | apply kn_ | apply kd_ | apply ka_)); exact BK401.out) hb); clear q0_; clear hb hbox hg))
 (try simp only [Act.put, zs_])
 go_cut [36] (fun v36 wc => ∃ (kq : Nat) (x36_2 : Bool), v36 = .bool x36_2 ∧ Aside0 (r33_tick.j0 kq x36_2 a0_0 a0_1 a0_2 a0_3 a0_4 a0_5 a0_6 a0_7 a0_8 a0_9 l0_10 l1_0 l1_1 l1_2 l1_3 l1_4 l1_5 = some r) ∧ Aside0 (kq ≤ k) ∧ Aside0 (wc.heap[gb401]? = some (.cells #[.int .i64 a0_0, .int .i64 a0_1, .int .i64 a0_2, .int .i64 a0_3, .int .i64 a0_4, .int .i64 a0_5, .int .i64 a0_6, .int .i64 a0_7, .int .i64 a0_8, .int .i64 a0_9, (.slice A0_10 l0_10.length c0_10)] 24 (0, 0))) ∧ Aside0 (wc.heap[gb402]? = some (.cells #[(.slice A1_0 l1_0.length c1_0), (.slice A1_1 l1_1.length c1_1), (.slice A1_2 l1_2.length c1_2), (.slice A1_3 l1_3.length c1_3), (.slice A1_4 l1_4.length c1_4), (.slice A1_5 l1_5.length c1_5)] 44 (0, 0))) ∧ Aside0 (Below w.heap.size w wc))
 case first =>
  have H := HC3.out
  clear HC3
  obtain ⟨t403, A6, H⟩ := bes_ H
  try dsimp only at H
  by_cases c7 : t403 = true
  subst c7
  rw [if_pos rfl] at H
  obtain ⟨t404, A8, H⟩ := bes_ H
  try dsimp only at H
  by_cases c9 : t404 = true
  subst c9
  rw [if_pos rfl] at H
  obtain ⟨t405, A10, H⟩ := bes_ H
  try dsimp only at H
  obtain ⟨t408, A11, H⟩ := bes_ H
  try dsimp only at H
  rotate_left
  replace c9 := Bool.eq_false_iff.mpr c9
  subst c9
  rw [if_neg (show ¬ (false = true) by decide)] at H
  rotate_left
  replace c7 := Bool.eq_false_iff.mpr c7
  subst c7
  rw [if_neg (show ¬ (false = true) by decide)] at H
  rotate_left
  all_goals
   have H' := am_ H
   clear H
   try go_wp2
   replace BK401 := am_ (blk_drew BK401.out)
   replace BK402 := am_ (blk_drew BK402.out)
   replace HB := am_ (below_drew1 HB.out)
   refine start_ (n := 30) (S := fun w' => ce_ w' gb402 0 (.slice A1_0 l1_0.length c1_0) ∧ ce_ w' gb402 1 (.slice A1_1 l1_1.length c1_1) ∧ ce_ w' gb402 2 (.slice A1_2 l1_2.length c1_2) ∧ ce_ w' gb402 3 (.slice A1_3 l1_3.length c1_3) ∧ ce_ w' gb402 4 (.slice A1_4 l1_4.length c1_4) ∧ ce_ w' gb402 5 (.slice A1_5 l1_5.length c1_5) ∧ ce_ w' gb401 0 (.int .i64 a0_0) ∧ ce_ w' gb401 1 (.int .i64 a0_1) ∧ ce_ w' gb401 2 (.int .i64 a0_2) ∧ ce_ w' gb401 3 (.int .i64 a0_3) ∧ ce_ w' gb401 4 (.int .i64 a0_4) ∧ ce_ w' gb401 5 (.int .i64 a0_5) ∧ ce_ w' gb401 6 (.int .i64 a0_6) ∧ ce_ w' gb401 7 (.int .i64 a0_7) ∧ ce_ w' gb401 8 (.int .i64 a0_8) ∧ ce_ w' gb401 9 (.int .i64 a0_9) ∧ ce_ w' gb401 10 (.slice A0_10 l0_10.length c0_10)) (ds := []) #[false, false, false, false, false, false, false, false, false, false, false, false, false, false, false, false, false, false, false, false, false, false, false, false, false, false, false, false, false, false] (by kernel_rfl) rfl rfl ⟨(blk_cell BK402.out 0).trans rfl, (blk_cell BK402.out 1).trans rfl, (blk_cell BK402.out 2).trans rfl, (blk_cell BK402.out 3).trans rfl, (blk_cell BK402.out 4).trans rfl, (blk_cell BK402.out 5).trans rfl, (blk_cell BK401.out 0).trans rfl, (blk_cell BK401.out 1).trans rfl, (blk_cell BK401.out 2).trans rfl, (blk_cell BK401.out 3).trans rfl, (blk_cell BK401.out 4).trans rfl, (blk_cell BK401.out 5).trans rfl, (blk_cell BK401.out 6).trans rfl, (blk_cell BK401.out 7).trans rfl, (blk_cell BK401.out 8).trans rfl, (blk_cell BK401.out 9).trans rfl, (blk_cell BK401.out 10).trans rfl⟩ (fun hHeld => ?_); refine with_tabW r33_tick.tab1 r33_tick.bits1 (fun HT_ HW_ => ?_)
   generalize w5.drew = w12 at BK401 BK402 HB hHeld ⊢
   refine pur_ 0 (some 7) rfl rfl (any_of HT_.out (by kernel_rfl)) ?_
   refine pur_ 2 (some 9) rfl rfl (any_of HT_.out (by kernel_rfl)) ?_
   refine tak_ 1 (some 8) rfl rfl (take_ofW HT_.out HW_.out (by kernel_rfl)) hHeld ?_ (by rintro w' ⟨s0, s1, s2, s3, s4, s5, s6, s7, s8, s9, s10, s11, s12, s13, s14, s15, s16⟩; go_simp; with_reducible rfl)
   refine tak_ 3 (some 10) rfl rfl (take_ofW HT_.out HW_.out (by kernel_rfl)) hHeld ?_ (by rintro w' ⟨s0, s1, s2, s3, s4, s5, s6, s7, s8, s9, s10, s11, s12, s13, s14, s15, s16⟩; go_simp; with_reducible rfl)
   refine oon_ 4 (some 11) rfl rfl (one_of HT_.out (by kernel_rfl)) (fun K hK => ?_)
   refine gos_ Try.func77 (r33_within.calls k _ _ l1_0 a0_0 _ _ ?side1 HC1_0.out A6.out) ?_
   (case side1 => repeat (first | exact (Kd.C_below HR1_0.out HB.out) | (with_reducible refine Kd.C_alloc ?_ _) | (with_reducible refine Kd.C_drewN ?_ _) | (with_reducible refine Kd.C_drew ?_)))
   rintro e w' ⟨rfl, ⟨nd, rfl⟩⟩
   refine ⟨_, rfl, ?_⟩
   refine hK.out _ _ (and_6 BK402.out (cells_11 BK401.out)) (fun hHeld => ?_)
   clear hK K
   refine nor_ 11 ?_
   refine pur_ 5 (some 12) rfl rfl (any_of HT_.out (by kernel_rfl)) ?_
   refine pur_ 6 (some 13) rfl rfl (any_of HT_.out (by kernel_rfl)) ?_
  iterate 2
   focus
    refine pur_ 7 (some 14) rfl rfl (any_of HT_.out (by kernel_rfl)) ?_
    refine pur_ 9 (some 16) rfl rfl (any_of HT_.out (by kernel_rfl)) ?_
    refine pur_ 11 (some 18) rfl rfl (any_of HT_.out (by kernel_rfl)) ?_
    refine tak_ 8 (some 15) rfl rfl (take_ofW HT_.out HW_.out (by kernel_rfl)) hHeld ?_ (by rintro w' ⟨s0, s1, s2, s3, s4, s5, s6, s7, s8, s9, s10, s11, s12, s13, s14, s15, s16⟩; go_simp; with_reducible rfl)
    refine tak_ 10 (some 17) rfl rfl (take_ofW HT_.out HW_.out (by kernel_rfl)) hHeld ?_ (by rintro w' ⟨s0, s1, s2, s3, s4, s5, s6, s7, s8, s9, s10, s11, s12, s13, s14, s15, s16⟩; go_simp; with_reducible rfl)
    refine tak_ 12 (some 19) rfl rfl (take_ofW HT_.out HW_.out (by kernel_rfl)) hHeld ?_ (by rintro w' ⟨s0, s1, s2, s3, s4, s5, s6, s7, s8, s9, s10, s11, s12, s13, s14, s15, s16⟩; go_simp; with_reducible rfl)
    refine pur_ 13 (some 20) rfl rfl (any_of HT_.out (by kernel_rfl)) ?_
    refine oon_ 14 (some 21) rfl rfl (one_of HT_.out (by kernel_rfl)) (fun K hK => ?_)
    refine gos_ Try.func77 (r33_within.calls k _ _ l1_1 (wrap64 (a0_0 * a0_0)) _ _ ?side1 HC1_1.out A8.out) ?_
    (case side1 => repeat (first | exact (Kd.C_below HR1_1.out (by repeat (first | (with_reducible first | exact HB.out | apply ba_ | apply bn_ | apply bd_ | refine bs_ ?_ GE401.out | refine bs_ ?_ GE402.out) | exact HB.out))) | (with_reducible refine Kd.C_alloc ?_ _) | (with_reducible refine Kd.C_drewN ?_ _) | (with_reducible refine Kd.C_drew ?_)))
    rintro e w' ⟨rfl, ⟨nd, rfl⟩⟩
    refine ⟨_, rfl, ?_⟩
    refine hK.out _ _ (and_6 BK402.out (cells_11 BK401.out)) (fun hHeld => ?_)
    clear hK K
    refine nor_ 21 ?_
    refine pur_ 15 (some 22) rfl rfl (any_of HT_.out (by kernel_rfl)) ?_
    refine pur_ 16 (some 23) rfl rfl (any_of HT_.out (by kernel_rfl)) ?_
    refine pur_ 17 (some 24) rfl rfl (any_of HT_.out (by kernel_rfl)) ?_
   rotate_left
  rotate_left 1
  ·refine pur_ 20 (some 27) rfl rfl (any_of HT_.out (by kernel_rfl)) ?_
   refine pur_ 23 (some 30) rfl rfl (any_of HT_.out (by kernel_rfl)) ?_
   refine tak_ 18 (some 25) rfl rfl (take_ofW HT_.out HW_.out (by kernel_rfl)) hHeld ?_ (by rintro w' ⟨s0, s1, s2, s3, s4, s5, s6, s7, s8, s9, s10, s11, s12, s13, s14, s15, s16⟩; go_simp; with_reducible rfl)
   refine tak_ 21 (some 28) rfl rfl (take_ofW HT_.out HW_.out (by kernel_rfl)) hHeld ?_ (by rintro w' ⟨s0, s1, s2, s3, s4, s5, s6, s7, s8, s9, s10, s11, s12, s13, s14, s15, s16⟩; go_simp; with_reducible rfl)
   refine pur_ 22 (some 29) rfl rfl (any_of HT_.out (by kernel_rfl)) ?_
   refine tak_ 24 (some 31) rfl rfl (take_ofW HT_.out HW_.out (by kernel_rfl)) hHeld ?_ (by rintro w' ⟨s0, s1, s2, s3, s4, s5, s6, s7, s8, s9, s10, s11, s12, s13, s14, s15, s16⟩; go_simp; with_reducible rfl)
   refine pur_ 25 (some 32) rfl rfl (any_of HT_.out (by kernel_rfl)) ?_
   refine pur_ 26 (some 33) rfl rfl (any_of HT_.out (by kernel_rfl)) ?_
   refine oon_ 19 (some 26) rfl rfl (one_of HT_.out (by kernel_rfl)) (fun K hK => ?_)
   refine gos_ Try.func78 (r33_waits.calls k _ _ l1_0 _ _ l1_1 _ _ l1_2 _ _ l1_3 _ _ l1_4 _ _ l1_5 _ _ ?side1 HC1_0.out ?side3 HC1_1.out ?side5 HC1_2.out ?side7 HC1_3.out ?side9 HC1_4.out ?side11 HC1_5.out A10.out) ?_
   (case side1 => repeat (first | exact (Kd.C_below HR1_0.out (by repeat (first | (with_reducible first | exact HB.out | apply ba_ | apply bn_ | apply bd_ | refine bs_ ?_ GE401.out | refine bs_ ?_ GE402.out) | exact HB.out))) | (with_reducible refine Kd.C_alloc ?_ _) | (with_reducible refine Kd.C_drewN ?_ _) | (with_reducible refine Kd.C_drew ?_)))
   (case side3 => repeat (first | exact (Kd.C_below HR1_1.out (by repeat (first | (with_reducible first | exact HB.out | apply ba_ | apply bn_ | apply bd_ | refine bs_ ?_ GE401.out | refine bs_ ?_ GE402.out) | exact HB.out))) | (with_reducible refine Kd.C_alloc ?_ _) | (with_reducible refine Kd.C_drewN ?_ _) | (with_reducible refine Kd.C_drew ?_)))
   (case side5 => repeat (first | exact (Kd.C_below HR1_2.out (by repeat (first | (with_reducible first | exact HB.out | apply ba_ | apply bn_ | apply bd_ | refine bs_ ?_ GE401.out | refine bs_ ?_ GE402.out) | exact HB.out))) | (with_reducible refine Kd.C_alloc ?_ _) | (with_reducible refine Kd.C_drewN ?_ _) | (with_reducible refine Kd.C_drew ?_)))
   (case side7 => repeat (first | exact (Kd.C_below HR1_3.out (by repeat (first | (with_reducible first | exact HB.out | apply ba_ | apply bn_ | apply bd_ | refine bs_ ?_ GE401.out | refine bs_ ?_ GE402.out) | exact HB.out))) | (with_reducible refine Kd.C_alloc ?_ _) | (with_reducible refine Kd.C_drewN ?_ _) | (with_reducible refine Kd.C_drew ?_)))
   (case side9 => repeat (first | exact (Kd.C_below HR1_4.out (by repeat (first | (with_reducible first | exact HB.out | apply ba_ | apply bn_ | apply bd_ | refine bs_ ?_ GE401.out | refine bs_ ?_ GE402.out) | exact HB.out))) | (with_reducible refine Kd.C_alloc ?_ _) | (with_reducible refine Kd.C_drewN ?_ _) | (with_reducible refine Kd.C_drew ?_)))
   (case side11 => repeat (first | exact (Kd.C_below HR1_5.out (by repeat (first | (with_reducible first | exact HB.out | apply ba_ | apply bn_ | apply bd_ | refine bs_ ?_ GE401.out | refine bs_ ?_ GE402.out) | exact HB.out))) | (with_reducible refine Kd.C_alloc ?_ _) | (with_reducible refine Kd.C_drewN ?_ _) | (with_reducible refine Kd.C_drew ?_)))
   rintro e w13 ⟨v406, rfl, ho0, hb⟩
   refine ⟨_, rfl, ?_⟩
   have q0_ := below_of hb (by repeat (first | (with_reducible first | exact HB.out | apply ba_ | apply bn_ | apply bd_ | refine bs_ ?_ GE401.out | refine bs_ ?_ GE402.out) | exact HB.out))
   have HO407 := am_ (Kd.R_lower ho0 (below_size q0_))
   replace BK401 := am_ (blk_below (by (with_reducible repeat (first | apply kn_ | apply kd_ | apply ka_)); exact BK401.out) hb)
   replace BK402 := am_ (blk_below (by (with_reducible repeat (first | apply kn_ | apply kd_ | apply ka_)); exact BK402.out) hb)
   replace HB := am_ (below_step q0_ hb)
   clear q0_
   (try clear hb)
   (try clear hb2)
   (try clear hk)
   (try clear hi)
   (try clear ho0)
   obtain ⟨Ao14, co14, eo14⟩ := Kd.R_slice HO407.out
   (first | subst eo14 | (injection eo14 with f1_ f2_ f3_; have f4_ := f1_.symm; have f5_ := f3_.symm; clear f1_ f2_ f3_; subst f4_; subst f5_))
   refine hK.out _ _ (and_6 BK402.out (cells_11 BK401.out)) (fun hHeld => ?_)
   clear hK K
   refine nor_ 26 ?_
   refine oon_ 27 (some 34) rfl rfl (one_of HT_.out (by kernel_rfl)) (fun K hK => ?_)
   refine gos_ Try.func77 (r33_within.calls k _ _ t405 (wrap64 ((l1_2.length : Int) + (l1_4.length : Int))) _ _ ?side1 (Kd.R_reads' HO407.out).2.1 A11.out) ?_
   (case side1 => repeat (first | exact (Kd.R_reads' HO407.out).2.2 | (with_reducible refine Kd.C_alloc ?_ _) | (with_reducible refine Kd.C_drewN ?_ _) | (with_reducible refine Kd.C_drew ?_)))
   rintro e w' ⟨rfl, ⟨nd, rfl⟩⟩
   refine ⟨_, rfl, ?_⟩
   refine hK.out _ _ (and_6 BK402.out (cells_11 BK401.out)) (fun hHeld => ?_)
   clear hK K
   refine nor_ 34 ?_
   refine pur_ 28 (some 35) rfl rfl (any_of HT_.out (by kernel_rfl)) ?_
   refine pur_ 29 (some 36) rfl rfl (any_of HT_.out (by kernel_rfl)) ?_
   refine done_ (done_of HT_.out (by kernel_rfl)) ?_
   try go_wp2
   go_meet
   case rel => exact ⟨_, (!t408), (by first | rfl | (simp; done) | (simp [*]; done)), H', ⟨by first | omega | exact Nat.le_refl _⟩, ⟨by (with_reducible repeat (first | apply kn_ | apply kd_ | apply ka_)); exact BK401.out⟩, ⟨by (with_reducible repeat (first | apply kn_ | apply kd_ | apply ka_)); exact BK402.out⟩, ⟨by repeat (first | (with_reducible first | exact HB.out | apply ba_ | apply bn_ | apply bd_ | refine bs_ ?_ GE401.out | refine bs_ ?_ GE402.out) | exact HB.out)⟩⟩
  ·refine puu_ 18 (some 25) rfl rfl (any_of HT_.out (by kernel_rfl)) ?_
   refine puu_ 19 (some 26) rfl rfl (any_of HT_.out (by kernel_rfl)) ?_
   refine puu_ 20 (some 27) rfl rfl (any_of HT_.out (by kernel_rfl)) ?_
   refine puu_ 21 (some 28) rfl rfl (any_of HT_.out (by kernel_rfl)) ?_
   refine puu_ 22 (some 29) rfl rfl (any_of HT_.out (by kernel_rfl)) ?_
   refine puu_ 23 (some 30) rfl rfl (any_of HT_.out (by kernel_rfl)) ?_
   refine puu_ 24 (some 31) rfl rfl (any_of HT_.out (by kernel_rfl)) ?_
   refine puu_ 25 (some 32) rfl rfl (any_of HT_.out (by kernel_rfl)) ?_
   refine puu_ 26 (some 33) rfl rfl (any_of HT_.out (by kernel_rfl)) ?_
   refine puu_ 27 (some 34) rfl rfl (any_of HT_.out (by kernel_rfl)) ?_
   refine puu_ 28 (some 35) rfl rfl (any_of HT_.out (by kernel_rfl)) ?_
   refine pur_ 29 (some 36) rfl rfl (any_of HT_.out (by kernel_rfl)) ?_
   refine done_ (done_of HT_.out (by kernel_rfl)) ?_
   try go_wp2
   go_meet
   case rel => exact ⟨_, (true), (by first | rfl | (simp; done) | (simp [*]; done)), H', ⟨by first | omega | exact Nat.le_refl _⟩, ⟨by (with_reducible repeat (first | apply kn_ | apply kd_ | apply ka_)); exact BK401.out⟩, ⟨by (with_reducible repeat (first | apply kn_ | apply kd_ | apply ka_)); exact BK402.out⟩, ⟨by repeat (first | (with_reducible first | exact HB.out | apply ba_ | apply bn_ | apply bd_ | refine bs_ ?_ GE401.out | refine bs_ ?_ GE402.out) | exact HB.out)⟩⟩
  ·refine puu_ 7 (some 14) rfl rfl (any_of HT_.out (by kernel_rfl)) ?_
   refine puu_ 8 (some 15) rfl rfl (any_of HT_.out (by kernel_rfl)) ?_
   refine puu_ 9 (some 16) rfl rfl (any_of HT_.out (by kernel_rfl)) ?_
   refine puu_ 10 (some 17) rfl rfl (any_of HT_.out (by kernel_rfl)) ?_
   refine puu_ 11 (some 18) rfl rfl (any_of HT_.out (by kernel_rfl)) ?_
   refine puu_ 12 (some 19) rfl rfl (any_of HT_.out (by kernel_rfl)) ?_
   refine puu_ 13 (some 20) rfl rfl (any_of HT_.out (by kernel_rfl)) ?_
   refine puu_ 14 (some 21) rfl rfl (any_of HT_.out (by kernel_rfl)) ?_
   refine puu_ 15 (some 22) rfl rfl (any_of HT_.out (by kernel_rfl)) ?_
   refine pur_ 16 (some 23) rfl rfl (any_of HT_.out (by kernel_rfl)) ?_
   refine pur_ 17 (some 24) rfl rfl (any_of HT_.out (by kernel_rfl)) ?_
   refine puu_ 18 (some 25) rfl rfl (any_of HT_.out (by kernel_rfl)) ?_
   refine puu_ 19 (some 26) rfl rfl (any_of HT_.out (by kernel_rfl)) ?_
   refine puu_ 20 (some 27) rfl rfl (any_of HT_.out (by kernel_rfl)) ?_
   refine puu_ 21 (some 28) rfl rfl (any_of HT_.out (by kernel_rfl)) ?_
   refine puu_ 22 (some 29) rfl rfl (any_of HT_.out (by kernel_rfl)) ?_
   refine puu_ 23 (some 30) rfl rfl (any_of HT_.out (by kernel_rfl)) ?_
   refine puu_ 24 (some 31) rfl rfl (any_of HT_.out (by kernel_rfl)) ?_
   refine puu_ 25 (some 32) rfl rfl (any_of HT_.out (by kernel_rfl)) ?_
   refine puu_ 26 (some 33) rfl rfl (any_of HT_.out (by kernel_rfl)) ?_
   refine puu_ 27 (some 34) rfl rfl (any_of HT_.out (by kernel_rfl)) ?_
   refine puu_ 28 (some 35) rfl rfl (any_of HT_.out (by kernel_rfl)) ?_
   refine pur_ 29 (some 36) rfl rfl (any_of HT_.out (by kernel_rfl)) ?_
   refine done_ (done_of HT_.out (by kernel_rfl)) ?_
   try go_wp2
   go_meet
   case rel => exact ⟨_, (true), (by first | rfl | (simp; done) | (simp [*]; done)), H', ⟨by first | omega | exact Nat.le_refl _⟩, ⟨by (with_reducible repeat (first | apply kn_ | apply kd_ | apply ka_)); exact BK401.out⟩, ⟨by (with_reducible repeat (first | apply kn_ | apply kd_ | apply ka_)); exact BK402.out⟩, ⟨by repeat (first | (with_reducible first | exact HB.out | apply ba_ | apply bn_ | apply bd_ | refine bs_ ?_ GE401.out | refine bs_ ?_ GE402.out) | exact HB.out)⟩⟩
 case rest =>
  clear HC3
  try clear c1
  try clear p2
  try clear p6
  try clear c7
  try clear c9
  obtain ⟨kq, x36_2, rfl, HA, HJ2, BK401, BK402, HB⟩ := hcut
  cases kq with
  | zero => exact absurd HA.out (by simp [r33_tick.j0])
  | succ kj2 =>
   have H := HA.out
   clear HA
   simp only [r33_tick.j0] at H
   by_cases c17 : x36_2 = true
   ·subst c17
    rw [if_pos rfl] at H
    obtain rfl := Option.some.inj H
    go_wp2
    go_ret
    exact ⟨by first | rfl | (simp [*] <;> rfl), by repeat (first | (with_reducible first | exact HB.out | apply ba_ | apply bn_ | apply bd_ | refine bs_ ?_ GE401.out | refine bs_ ?_ GE402.out) | exact HB.out)⟩
   ·replace c17 := Bool.eq_false_iff.mpr c17
    subst c17
    rw [if_neg (show ¬ (false = true) by decide)] at H
    have HC18 := am_ H
    clear H
    go_upto_region 3 with (fail)
    go_cut [58] (fun v58 wc => ∃ (kq : Nat) (x58_17 : Bool), v58 = .bool x58_17 ∧ Aside0 (r33_tick.j1 kq x58_17 a0_0 a0_1 a0_2 a0_3 a0_4 a0_5 a0_6 a0_7 a0_8 a0_9 l0_10 l1_0 l1_1 l1_2 l1_3 l1_4 l1_5 = some r) ∧ Aside0 (kq ≤ kj2) ∧ Aside0 (wc.heap[gb401]? = some (.cells #[.int .i64 a0_0, .int .i64 a0_1, .int .i64 a0_2, .int .i64 a0_3, .int .i64 a0_4, .int .i64 a0_5, .int .i64 a0_6, .int .i64 a0_7, .int .i64 a0_8, .int .i64 a0_9, (.slice A0_10 l0_10.length c0_10)] 24 (0, 0))) ∧ Aside0 (wc.heap[gb402]? = some (.cells #[(.slice A1_0 l1_0.length c1_0), (.slice A1_1 l1_1.length c1_1), (.slice A1_2 l1_2.length c1_2), (.slice A1_3 l1_3.length c1_3), (.slice A1_4 l1_4.length c1_4), (.slice A1_5 l1_5.length c1_5)] 44 (0, 0))) ∧ Aside0 (Below w.heap.size w wc))
    case first =>
     have H := HC18.out
     clear HC18
     by_cases c19 : (l1_2.length : Int) > 40
     ·rw [if_pos c19] at H
      have c19b0 : decide (40 < (l1_2.length : Int)) = true := decide_eq_true c19
      have c19b1 : decide (40 < l1_2.length) = true := decide_eq_true (by omega)
      clear c19
      (first | rw [c19b0] | (simp only [i64_w, i32_w]; rw [c19b0]) | skip)
      have H' := am_ H
      clear H
      have hnb20 := NB402_401.out
      have hnc20 := NB401_402.out
      have hcz21 := cells_6 BK402.out
      have hfz21 := frozen_6 BK402.out
      go_wp2
      go_meet
      case rel => exact ⟨_, (true), (by first | rfl | (simp; done) | (simp [*]; done)), H', ⟨by have := HJ2.out; first | omega | exact Nat.le_refl _⟩, ⟨by (with_reducible repeat (first | apply kn_ | apply kd_ | apply ka_)); exact BK401.out⟩, ⟨by (with_reducible repeat (first | apply kn_ | apply kd_ | apply ka_)); exact BK402.out⟩, ⟨by repeat (first | (with_reducible first | exact HB.out | apply ba_ | apply bn_ | apply bd_ | refine bs_ ?_ GE401.out | refine bs_ ?_ GE402.out) | exact HB.out)⟩⟩
     ·rw [if_neg c19] at H
      have c19b0 : decide (40 < (l1_2.length : Int)) = false := decide_eq_false c19
      have c19b1 : decide (40 < l1_2.length) = false := decide_eq_false (by omega)
      clear c19
      (first | rw [c19b0] | (simp only [i64_w, i32_w]; rw [c19b0]) | skip)
      by_cases c22 : (l1_3.length : Int) > 40
      ·rw [if_pos c22] at H
       have c22b0 : decide (40 < (l1_3.length : Int)) = true := decide_eq_true c22
       have c22b1 : decide (40 < l1_3.length) = true := decide_eq_true (by omega)
       clear c22
       have H' := am_ H
       clear H
       have hnb23 := NB402_401.out
       have hnc23 := NB401_402.out
       have hcz24 := cells_6 BK402.out
       have hfz24 := frozen_6 BK402.out
       go_wp2
       go_meet
       case rel => exact ⟨_, (true), (by first | rfl | (simp; done) | (simp [*]; done)), H', ⟨by have := HJ2.out; first | omega | exact Nat.le_refl _⟩, ⟨by (with_reducible repeat (first | apply kn_ | apply kd_ | apply ka_)); exact BK401.out⟩, ⟨by (with_reducible repeat (first | apply kn_ | apply kd_ | apply ka_)); exact BK402.out⟩, ⟨by repeat (first | (with_reducible first | exact HB.out | apply ba_ | apply bn_ | apply bd_ | refine bs_ ?_ GE401.out | refine bs_ ?_ GE402.out) | exact HB.out)⟩⟩
      ·rw [if_neg c22] at H
       have c22b0 : decide (40 < (l1_3.length : Int)) = false := decide_eq_false c22
       have c22b1 : decide (40 < l1_3.length) = false := decide_eq_false (by omega)
       clear c22
       by_cases c25 : (l1_4.length : Int) > 40
       ·rw [if_pos c25] at H
        have c25b0 : decide (40 < (l1_4.length : Int)) = true := decide_eq_true c25
        have c25b1 : decide (40 < l1_4.length) = true := decide_eq_true (by omega)
        clear c25
        have H' := am_ H
        clear H
        have hnb26 := NB402_401.out
        have hnc26 := NB401_402.out
        have hcz27 := cells_6 BK402.out
        have hfz27 := frozen_6 BK402.out
        go_wp2
        go_meet
        case rel => exact ⟨_, (true), (by first | rfl | (simp; done) | (simp [*]; done)), H', ⟨by have := HJ2.out; first | omega | exact Nat.le_refl _⟩, ⟨by (with_reducible repeat (first | apply kn_ | apply kd_ | apply ka_)); exact BK401.out⟩, ⟨by (with_reducible repeat (first | apply kn_ | apply kd_ | apply ka_)); exact BK402.out⟩, ⟨by repeat (first | (with_reducible first | exact HB.out | apply ba_ | apply bn_ | apply bd_ | refine bs_ ?_ GE401.out | refine bs_ ?_ GE402.out) | exact HB.out)⟩⟩
       ·rw [if_neg c25] at H
        have c25b0 : decide (40 < (l1_4.length : Int)) = false := decide_eq_false c25
        have c25b1 : decide (40 < l1_4.length) = false := decide_eq_false (by omega)
        clear c25
        have H' := am_ H
        clear H
        have hnb28 := NB402_401.out
        have hnc28 := NB401_402.out
        have hcz29 := cells_6 BK402.out
        have hfz29 := frozen_6 BK402.out
        go_wp2
        go_meet
        case rel => exact ⟨_, (decide ((l1_5.length : Int) > 40)), (by first | rfl | (simp; done) | (simp [*]; done)), H', ⟨by have := HJ2.out; first | omega | exact Nat.le_refl _⟩, ⟨by (with_reducible repeat (first | apply kn_ | apply kd_ | apply ka_)); exact BK401.out⟩, ⟨by (with_reducible repeat (first | apply kn_ | apply kd_ | apply ka_)); exact BK402.out⟩, ⟨by repeat (first | (with_reducible first | exact HB.out | apply ba_ | apply bn_ | apply bd_ | refine bs_ ?_ GE401.out | refine bs_ ?_ GE402.out) | exact HB.out)⟩⟩
    case rest =>
     clear HC18
     try clear c1
     try clear c2
     try clear p2
     try clear p6
     try clear c7
     try clear c9
     try clear c17
     try clear c19
     try clear c19b0
     try clear c19b1
     try clear c20
     try clear c22
     try clear c22b0
     try clear c22b1
     try clear c23
     try clear c25
     try clear c25b0
     try clear c25b1
     try clear c26
     try clear c28
     try clear hcz21
     try clear hcz24
     try clear hcz27
     try clear hcz29
     try clear hfz21
     try clear hfz24
     try clear hfz27
     try clear hfz29
     try clear p2
     try clear p6
     obtain ⟨kq, x58_17, rfl, HA, HJ17, BK401, BK402, HB⟩ := hcut
     cases kq with
     | zero => exact absurd HA.out (by simp [r33_tick.j1])
     | succ kj17 =>
      have H := HA.out
      clear HA
      simp only [r33_tick.j1] at H
      by_cases c30 : x58_17 = true
      ·subst c30
       rw [if_pos rfl] at H
       obtain rfl := Option.some.inj H
       go_wp2
       go_ret
       exact ⟨by first | rfl | (simp [*] <;> rfl), by repeat (first | (with_reducible first | exact HB.out | apply ba_ | apply bn_ | apply bd_ | refine bs_ ?_ GE401.out | refine bs_ ?_ GE402.out) | exact HB.out)⟩
      ·replace c30 := Bool.eq_false_iff.mpr c30
       subst c30
       rw [if_neg (show ¬ (false = true) by decide)] at H
       obtain ⟨t409, A31, H⟩ := bes_ H
       try dsimp only at H
       by_cases c32 : t409 = true
       ·subst c32
        rw [if_pos rfl] at H
        obtain ⟨t410, A33, H⟩ := bes_ H
        try dsimp only at H
        by_cases c34 : t410 = true
        ·subst c34
         rw [if_pos rfl] at H
         obtain rfl := Option.some.inj H
         have hnb35 := NB401_402.out
         have hnc35 := NB402_401.out
         have hcz36 := cells_11 BK401.out
         have hfz36 := frozen_11 BK401.out
         have hcz37 := cells_6 BK402.out
         have hfz37 := frozen_6 BK402.out
         go_wp2_with (first | ((with_reducible refine gate_callee (f := 79) rfl ?_); refine gom_ (some 61) Try.func79 (r33_nodes.calls kj17 a0_0 a0_1 a0_2 a0_3 a0_4 a0_5 a0_6 a0_7 a0_8 a0_9 _ _ l0_10 _ _ l1_0 _ _ l1_1 _ _ l1_2 _ _ l1_3 _ _ l1_4 _ _ l1_5 _ _ ?side1 HC0_10.out ?side3 HC1_0.out ?side5 HC1_1.out ?side7 HC1_2.out ?side9 HC1_3.out ?side11 HC1_4.out ?side13 HC1_5.out A31.out) ?_; (case side1 => repeat (first | exact (Kd.C_below HR0_10.out HB.out) | (with_reducible refine Kd.C_alloc ?_ _) | (with_reducible refine Kd.C_drewN ?_ _) | (with_reducible refine Kd.C_drew ?_))); (case side3 => repeat (first | exact (Kd.C_below HR1_0.out HB.out) | (with_reducible refine Kd.C_alloc ?_ _) | (with_reducible refine Kd.C_drewN ?_ _) | (with_reducible refine Kd.C_drew ?_))); (case side5 => repeat (first | exact (Kd.C_below HR1_1.out HB.out) | (with_reducible refine Kd.C_alloc ?_ _) | (with_reducible refine Kd.C_drewN ?_ _) | (with_reducible refine Kd.C_drew ?_))); (case side7 => repeat (first | exact (Kd.C_below HR1_2.out HB.out) | (with_reducible refine Kd.C_alloc ?_ _) | (with_reducible refine Kd.C_drewN ?_ _) | (with_reducible refine Kd.C_drew ?_))); (case side9 => repeat (first | exact (Kd.C_below HR1_3.out HB.out) | (with_reducible refine Kd.C_alloc ?_ _) | (with_reducible refine Kd.C_drewN ?_ _) | (with_reducible refine Kd.C_drew ?_))); (case side11 => repeat (first | exact (Kd.C_below HR1_4.out HB.out) | (with_reducible refine Kd.C_alloc ?_ _) | (with_reducible refine Kd.C_drewN ?_ _) | (with_reducible refine Kd.C_drew ?_))); (case side13 => repeat (first | exact (Kd.C_below HR1_5.out HB.out) | (with_reducible refine Kd.C_alloc ?_ _) | (with_reducible refine Kd.C_drewN ?_ _) | (with_reducible refine Kd.C_drew ?_))); rintro e w38 ⟨rfl, hb⟩; refine ⟨_, rfl, ?_⟩; replace BK401 := am_ (blk_below (by (with_reducible repeat (first | apply kn_ | apply kd_ | apply ka_)); exact BK401.out) hb); replace BK402 := am_ (blk_below (by (with_reducible repeat (first | apply kn_ | apply kd_ | apply ka_)); exact BK402.out) hb); replace HB := am_ (below_step (by repeat (first | (with_reducible first | exact HB.out | apply ba_ | apply bn_ | apply bd_ | refine bs_ ?_ GE401.out | refine bs_ ?_ GE402.out) | exact HB.out)) hb); (try clear hb); have hcz39 := cells_6 BK402.out; have hfz39 := frozen_6 BK402.out) | ((with_reducible refine gate_callee (f := 80) rfl ?_); refine gom_ (some 64) Try.func80 (r33_long.calls kj17 _ _ l1_0 _ _ l1_1 _ _ l1_2 _ _ l1_3 _ _ l1_4 _ _ l1_5 _ _ ?side1 HC1_0.out ?side3 HC1_1.out ?side5 HC1_2.out ?side7 HC1_3.out ?side9 HC1_4.out ?side11 HC1_5.out A33.out) ?_; (case side1 => repeat (first | exact (Kd.C_below HR1_0.out HB.out) | (with_reducible refine Kd.C_alloc ?_ _) | (with_reducible refine Kd.C_drewN ?_ _) | (with_reducible refine Kd.C_drew ?_))); (case side3 => repeat (first | exact (Kd.C_below HR1_1.out HB.out) | (with_reducible refine Kd.C_alloc ?_ _) | (with_reducible refine Kd.C_drewN ?_ _) | (with_reducible refine Kd.C_drew ?_))); (case side5 => repeat (first | exact (Kd.C_below HR1_2.out HB.out) | (with_reducible refine Kd.C_alloc ?_ _) | (with_reducible refine Kd.C_drewN ?_ _) | (with_reducible refine Kd.C_drew ?_))); (case side7 => repeat (first | exact (Kd.C_below HR1_3.out HB.out) | (with_reducible refine Kd.C_alloc ?_ _) | (with_reducible refine Kd.C_drewN ?_ _) | (with_reducible refine Kd.C_drew ?_))); (case side9 => repeat (first | exact (Kd.C_below HR1_4.out HB.out) | (with_reducible refine Kd.C_alloc ?_ _) | (with_reducible refine Kd.C_drewN ?_ _) | (with_reducible refine Kd.C_drew ?_))); (case side11 => repeat (first | exact (Kd.C_below HR1_5.out HB.out) | (with_reducible refine Kd.C_alloc ?_ _) | (with_reducible refine Kd.C_drewN ?_ _) | (with_reducible refine Kd.C_drew ?_))); rintro e w40 ⟨rfl, hb⟩; refine ⟨_, rfl, ?_⟩; replace BK401 := am_ (blk_below (by (with_reducible repeat (first | apply kn_ | apply kd_ | apply ka_)); exact BK401.out) hb); replace BK402 := am_ (blk_below (by (with_reducible repeat (first | apply kn_ | apply kd_ | apply ka_)); exact BK402.out) hb); replace HB := am_ (below_step (by repeat (first | (with_reducible first | exact HB.out | apply ba_ | apply bn_ | apply bd_ | refine bs_ ?_ GE401.out | refine bs_ ?_ GE402.out) | exact HB.out)) hb); (try clear hb)))
         go_ret
         exact ⟨by first | rfl | (simp [*] <;> rfl), by repeat (first | (with_reducible first | exact HB.out | apply ba_ | apply bn_ | apply bd_ | refine bs_ ?_ GE401.out | refine bs_ ?_ GE402.out) | exact HB.out)⟩
        ·replace c34 := Bool.eq_false_iff.mpr c34
         subst c34
         rw [if_neg (show ¬ (false = true) by decide)] at H
         have H' := am_ H
         clear H
         have hnb41 := NB401_402.out
         have hnc41 := NB402_401.out
         have hcz42 := cells_11 BK401.out
         have hfz42 := frozen_11 BK401.out
         have hcz43 := cells_6 BK402.out
         have hfz43 := frozen_6 BK402.out
         go_wp2_with (first | ((with_reducible refine gate_callee (f := 79) rfl ?_); refine gom_ (some 61) Try.func79 (r33_nodes.calls kj17 a0_0 a0_1 a0_2 a0_3 a0_4 a0_5 a0_6 a0_7 a0_8 a0_9 _ _ l0_10 _ _ l1_0 _ _ l1_1 _ _ l1_2 _ _ l1_3 _ _ l1_4 _ _ l1_5 _ _ ?side1 HC0_10.out ?side3 HC1_0.out ?side5 HC1_1.out ?side7 HC1_2.out ?side9 HC1_3.out ?side11 HC1_4.out ?side13 HC1_5.out A31.out) ?_; (case side1 => repeat (first | exact (Kd.C_below HR0_10.out HB.out) | (with_reducible refine Kd.C_alloc ?_ _) | (with_reducible refine Kd.C_drewN ?_ _) | (with_reducible refine Kd.C_drew ?_))); (case side3 => repeat (first | exact (Kd.C_below HR1_0.out HB.out) | (with_reducible refine Kd.C_alloc ?_ _) | (with_reducible refine Kd.C_drewN ?_ _) | (with_reducible refine Kd.C_drew ?_))); (case side5 => repeat (first | exact (Kd.C_below HR1_1.out HB.out) | (with_reducible refine Kd.C_alloc ?_ _) | (with_reducible refine Kd.C_drewN ?_ _) | (with_reducible refine Kd.C_drew ?_))); (case side7 => repeat (first | exact (Kd.C_below HR1_2.out HB.out) | (with_reducible refine Kd.C_alloc ?_ _) | (with_reducible refine Kd.C_drewN ?_ _) | (with_reducible refine Kd.C_drew ?_))); (case side9 => repeat (first | exact (Kd.C_below HR1_3.out HB.out) | (with_reducible refine Kd.C_alloc ?_ _) | (with_reducible refine Kd.C_drewN ?_ _) | (with_reducible refine Kd.C_drew ?_))); (case side11 => repeat (first | exact (Kd.C_below HR1_4.out HB.out) | (with_reducible refine Kd.C_alloc ?_ _) | (with_reducible refine Kd.C_drewN ?_ _) | (with_reducible refine Kd.C_drew ?_))); (case side13 => repeat (first | exact (Kd.C_below HR1_5.out HB.out) | (with_reducible refine Kd.C_alloc ?_ _) | (with_reducible refine Kd.C_drewN ?_ _) | (with_reducible refine Kd.C_drew ?_))); rintro e w44 ⟨rfl, hb⟩; refine ⟨_, rfl, ?_⟩; replace BK401 := am_ (blk_below (by (with_reducible repeat (first | apply kn_ | apply kd_ | apply ka_)); exact BK401.out) hb); replace BK402 := am_ (blk_below (by (with_reducible repeat (first | apply kn_ | apply kd_ | apply ka_)); exact BK402.out) hb); replace HB := am_ (below_step (by repeat (first | (with_reducible first | exact HB.out | apply ba_ | apply bn_ | apply bd_ | refine bs_ ?_ GE401.out | refine bs_ ?_ GE402.out) | exact HB.out)) hb); (try clear hb); have hcz45 := cells_6 BK402.out; have hfz45 := frozen_6 BK402.out) | ((with_reducible refine gate_callee (f := 80) rfl ?_); refine gom_ (some 64) Try.func80 (r33_long.calls kj17 _ _ l1_0 _ _ l1_1 _ _ l1_2 _ _ l1_3 _ _ l1_4 _ _ l1_5 _ _ ?side1 HC1_0.out ?side3 HC1_1.out ?side5 HC1_2.out ?side7 HC1_3.out ?side9 HC1_4.out ?side11 HC1_5.out A33.out) ?_; (case side1 => repeat (first | exact (Kd.C_below HR1_0.out HB.out) | (with_reducible refine Kd.C_alloc ?_ _) | (with_reducible refine Kd.C_drewN ?_ _) | (with_reducible refine Kd.C_drew ?_))); (case side3 => repeat (first | exact (Kd.C_below HR1_1.out HB.out) | (with_reducible refine Kd.C_alloc ?_ _) | (with_reducible refine Kd.C_drewN ?_ _) | (with_reducible refine Kd.C_drew ?_))); (case side5 => repeat (first | exact (Kd.C_below HR1_2.out HB.out) | (with_reducible refine Kd.C_alloc ?_ _) | (with_reducible refine Kd.C_drewN ?_ _) | (with_reducible refine Kd.C_drew ?_))); (case side7 => repeat (first | exact (Kd.C_below HR1_3.out HB.out) | (with_reducible refine Kd.C_alloc ?_ _) | (with_reducible refine Kd.C_drewN ?_ _) | (with_reducible refine Kd.C_drew ?_))); (case side9 => repeat (first | exact (Kd.C_below HR1_4.out HB.out) | (with_reducible refine Kd.C_alloc ?_ _) | (with_reducible refine Kd.C_drewN ?_ _) | (with_reducible refine Kd.C_drew ?_))); (case side11 => repeat (first | exact (Kd.C_below HR1_5.out HB.out) | (with_reducible refine Kd.C_alloc ?_ _) | (with_reducible refine Kd.C_drewN ?_ _) | (with_reducible refine Kd.C_drew ?_))); rintro e w46 ⟨rfl, hb⟩; refine ⟨_, rfl, ?_⟩; replace BK401 := am_ (blk_below (by (with_reducible repeat (first | apply kn_ | apply kd_ | apply ka_)); exact BK401.out) hb); replace BK402 := am_ (blk_below (by (with_reducible repeat (first | apply kn_ | apply kd_ | apply ka_)); exact BK402.out) hb); replace HB := am_ (below_step (by repeat (first | (with_reducible first | exact HB.out | apply ba_ | apply bn_ | apply bd_ | refine bs_ ?_ GE401.out | refine bs_ ?_ GE402.out) | exact HB.out)) hb); (try clear hb); have hcz47 := cells_6 BK402.out; have hfz47 := frozen_6 BK402.out))
         go_loopg [68] kj17 (fun kq v68 w' => ∃ (x68_3 : Int), v68 = .int .i64 x68_3 ∧ Aside0 (r33_tick.l0 kq l1_5 (l1_5.length : Int) x68_3 = some r) ∧ Aside0 (kq ≤ kj17) ∧ Aside0 (w'.heap[gb401]? = some (.cells #[.int .i64 a0_0, .int .i64 a0_1, .int .i64 a0_2, .int .i64 a0_3, .int .i64 a0_4, .int .i64 a0_5, .int .i64 a0_6, .int .i64 a0_7, .int .i64 a0_8, .int .i64 a0_9, (.slice A0_10 l0_10.length c0_10)] 24 (0, 0))) ∧ Aside0 (w'.heap[gb402]? = some (.cells #[(.slice A1_0 l1_0.length c1_0), (.slice A1_1 l1_1.length c1_1), (.slice A1_2 l1_2.length c1_2), (.slice A1_3 l1_3.length c1_3), (.slice A1_4 l1_4.length c1_4), (.slice A1_5 l1_5.length c1_5)] 44 (0, 0))) ∧ Aside0 (Below w.heap.size w w'))
         case atStart => exact ⟨(0), (by first | rfl | (simp; done) | (simp [*]; done)), H', ⟨Nat.le_refl _⟩, ⟨by (with_reducible repeat (first | apply kn_ | apply kd_ | apply ka_)); exact BK401.out⟩, ⟨by (with_reducible repeat (first | apply kn_ | apply kd_ | apply ka_)); exact BK402.out⟩, ⟨by repeat (first | (with_reducible first | exact HB.out | apply ba_ | apply bn_ | apply bd_ | refine bs_ ?_ GE401.out | refine bs_ ?_ GE402.out) | exact HB.out)⟩⟩
         case round =>
          clear H'
          try clear c1
          try clear c2
          try clear p2
          try clear c3
          try clear c4
          try clear p6
          try clear c7
          try clear c8
          try clear c9
          try clear c17
          try clear c19
          try clear c19b0
          try clear c19b1
          try clear c20
          try clear c22
          try clear c22b0
          try clear c22b1
          try clear c23
          try clear c25
          try clear c25b0
          try clear c25b1
          try clear c26
          try clear c28
          try clear c30
          try clear c32
          try clear c34
          try clear c35
          try clear c41
          try clear hcz21
          try clear hcz24
          try clear hcz27
          try clear hcz29
          try clear hcz36
          try clear hcz37
          try clear hcz39
          try clear hcz42
          try clear hcz43
          try clear hcz45
          try clear hcz47
          try clear hfz21
          try clear hfz24
          try clear hfz27
          try clear hfz29
          try clear hfz36
          try clear hfz37
          try clear hfz39
          try clear hfz42
          try clear hfz43
          try clear hfz45
          try clear hfz47
          try clear p2
          try clear p6
          obtain ⟨x68_3, rfl, HA, HK3, BK401, BK402, HB⟩ := hrel
          cases gk with
          | zero => exact absurd HA.out (by simp [r33_tick.l0])
          | succ k3 =>
           have H := HA.out
           clear HA
           simp only [r33_tick.l0] at H
           by_cases c48 : x68_3 < (l1_5.length : Int)
           ·rw [if_pos c48] at H
            have c48b0 : decide (x68_3 < (l1_5.length : Int)) = true := decide_eq_true c48
            clear c48
            by_cases c49 : 0 ≤ x68_3
            ·rw [if_pos c49] at H
             have c49b0 : decide (0 ≤ x68_3) = true := decide_eq_true c49
             clear c49
             by_cases c50 : x68_3 < (l1_5.length : Int)
             ·rw [if_pos c50] at H
              have c50b0 : decide (x68_3 < (l1_5.length : Int)) = true := decide_eq_true c50
              clear c50
              by_cases c51 : (((rd_T81 l1_5 x68_3).f1).size : Int) > 16
              ·rw [if_pos c51] at H
               have c51b0 : decide (16 < (((rd_T81 l1_5 x68_3).f1).size : Int)) = true := decide_eq_true c51
               have c51b1 : decide (16 < ((rd_T81 l1_5 x68_3).f1).size) = true := decide_eq_true (by omega)
               clear c51
               obtain rfl := Option.some.inj H
               have p411 : 0 ≤ (x68_3 : Int) := of_decide_eq_true (by first | (with_reducible assumption) | assumption)
               have q411 : x68_3 < (l1_5.length : Int) := of_decide_eq_true (by first | (with_reducible assumption) | assumption)
               obtain ⟨ad411, e411, hx411_0, hx411_1⟩ := at_T81 HR1_5.out x68_3 p411 q411
               cases e411
               replace hx411_0 := (HB.out.cell (World.block_lt_of_cell? w _ hx411_0)).trans hx411_0
               replace hx411_1 := (HB.out.cell (World.block_lt_of_cell? w _ hx411_1)).trans hx411_1
               replace p411 := eq_true p411
               replace q411 := eq_true q411
               go_wp2_with (first | ((with_reducible refine gate_dst (N := 6) rfl ?_); (try (refine gate_guard (by rfl) ?_; dsimp only)); refine bxe_ 6 81 #[.int .i64 0, .string (⟨#[]⟩ : ByteArray)] ?_; intro gb412 hg w52 hbox hb; have q0_ := below_of hb (by repeat (first | (with_reducible first | exact HB.out | apply ba_ | apply bn_ | apply bd_ | refine bs_ ?_ GE401.out | refine bs_ ?_ GE402.out) | exact HB.out)); have BK412 := am_ (hbox); have GW412 := am_ ((by rw [hg]; exact (below_size q0_) : w.heap.size ≤ gb412)); have GE412 := GW412; replace HB := am_ (below_step q0_ hb); have NB401_412 := am_ ((by rw [hg]; exact Nat.ne_of_lt (blk_lt (by (with_reducible repeat (first | apply kn_ | apply kd_ | apply ka_)); exact BK401.out)) : gb401 ≠ gb412)); have NB412_401 := nbs_ NB401_412; replace BK401 := am_ (blk_below (by (with_reducible repeat (first | apply kn_ | apply kd_ | apply ka_)); exact BK401.out) hb); have NB402_412 := am_ ((by rw [hg]; exact Nat.ne_of_lt (blk_lt (by (with_reducible repeat (first | apply kn_ | apply kd_ | apply ka_)); exact BK402.out)) : gb402 ≠ gb412)); have NB412_402 := nbs_ NB402_412; replace BK402 := am_ (blk_below (by (with_reducible repeat (first | apply kn_ | apply kd_ | apply ka_)); exact BK402.out) hb); clear q0_; clear hb hbox hg; have hnb53 := NB412_401.out; have hnc53 := NB401_412.out; have hnb54 := NB412_402.out; have hnc54 := NB402_412.out; obtain ⟨hcz55_0, hcz55_1⟩ := cells_2 BK412.out; obtain ⟨hfz55_0, hfz55_1⟩ := frozen_2 BK412.out))
               go_ret
               exact ⟨by first | rfl | (simp [*] <;> rfl), by repeat (first | (with_reducible first | exact HB.out | apply ba_ | apply bn_ | apply bd_ | refine bs_ ?_ GE401.out | refine bs_ ?_ GE402.out | refine bs_ ?_ GE412.out) | exact HB.out)⟩
              ·rw [if_neg c51] at H
               have c51b0 : decide (16 < (((rd_T81 l1_5 x68_3).f1).size : Int)) = false := decide_eq_false c51
               have c51b1 : decide (16 < ((rd_T81 l1_5 x68_3).f1).size) = false := decide_eq_false (by omega)
               clear c51
               have H' := am_ H
               clear H
               have p411 : 0 ≤ (x68_3 : Int) := of_decide_eq_true (by first | (with_reducible assumption) | assumption)
               have q411 : x68_3 < (l1_5.length : Int) := of_decide_eq_true (by first | (with_reducible assumption) | assumption)
               obtain ⟨ad411, e411, hx411_0, hx411_1⟩ := at_T81 HR1_5.out x68_3 p411 q411
               cases e411
               replace hx411_0 := (HB.out.cell (World.block_lt_of_cell? w _ hx411_0)).trans hx411_0
               replace hx411_1 := (HB.out.cell (World.block_lt_of_cell? w _ hx411_1)).trans hx411_1
               replace p411 := eq_true p411
               replace q411 := eq_true q411
               go_wp2_with (first | ((with_reducible refine gate_dst (N := 6) rfl ?_); (try (refine gate_guard (by rfl) ?_; dsimp only)); refine bxe_ 6 81 #[.int .i64 0, .string (⟨#[]⟩ : ByteArray)] ?_; intro gb412 hg w56 hbox hb; have q0_ := below_of hb (by repeat (first | (with_reducible first | exact HB.out | apply ba_ | apply bn_ | apply bd_ | refine bs_ ?_ GE401.out | refine bs_ ?_ GE402.out) | exact HB.out)); have BK412 := am_ (hbox); have GW412 := am_ ((by rw [hg]; exact (below_size q0_) : w.heap.size ≤ gb412)); have GE412 := GW412; replace HB := am_ (below_step q0_ hb); have NB401_412 := am_ ((by rw [hg]; exact Nat.ne_of_lt (blk_lt (by (with_reducible repeat (first | apply kn_ | apply kd_ | apply ka_)); exact BK401.out)) : gb401 ≠ gb412)); have NB412_401 := nbs_ NB401_412; replace BK401 := am_ (blk_below (by (with_reducible repeat (first | apply kn_ | apply kd_ | apply ka_)); exact BK401.out) hb); have NB402_412 := am_ ((by rw [hg]; exact Nat.ne_of_lt (blk_lt (by (with_reducible repeat (first | apply kn_ | apply kd_ | apply ka_)); exact BK402.out)) : gb402 ≠ gb412)); have NB412_402 := nbs_ NB402_412; replace BK402 := am_ (blk_below (by (with_reducible repeat (first | apply kn_ | apply kd_ | apply ka_)); exact BK402.out) hb); clear q0_; clear hb hbox hg; have hnb57 := NB412_401.out; have hnc57 := NB401_412.out; have hnb58 := NB412_402.out; have hnc58 := NB402_412.out; obtain ⟨hcz59_0, hcz59_1⟩ := cells_2 BK412.out; obtain ⟨hfz59_0, hfz59_1⟩ := frozen_2 BK412.out))
               go_roundg k3
               case measure => have := HJ2.out; have := HJ17.out; have := HK3.out; omega
               case rel => exact ⟨(wrap64 (x68_3 + 1)), (by first | rfl | (simp; done) | (simp [*]; done)), H', ⟨by have := HJ2.out; have := HJ17.out; have := HK3.out; omega⟩, ⟨by (iterate 2 ((with_reducible repeat (first | apply kn_ | apply kd_ | apply ka_)); refine blk_far ?_ NB401_412.out _)); (with_reducible repeat (first | apply kn_ | apply kd_ | apply ka_)); exact BK401.out⟩, ⟨by (iterate 2 ((with_reducible repeat (first | apply kn_ | apply kd_ | apply ka_)); refine blk_far ?_ NB402_412.out _)); (with_reducible repeat (first | apply kn_ | apply kd_ | apply ka_)); exact BK402.out⟩, ⟨by repeat (first | (with_reducible first | exact HB.out | apply ba_ | apply bn_ | apply bd_ | refine bs_ ?_ GE401.out | refine bs_ ?_ GE402.out | refine bs_ ?_ GE412.out) | exact HB.out)⟩⟩
             ·rw [if_neg c50] at H
              exact absurd H (by simp)
            ·rw [if_neg c49] at H
             exact absurd H (by simp)
           ·rw [if_neg c48] at H
            have c48b0 : decide (x68_3 < (l1_5.length : Int)) = false := decide_eq_false c48
            clear c48
            obtain rfl := Option.some.inj H
            go_wp2
            go_ret
            exact ⟨by first | rfl | (simp [*] <;> rfl), by repeat (first | (with_reducible first | exact HB.out | apply ba_ | apply bn_ | apply bd_ | refine bs_ ?_ GE401.out | refine bs_ ?_ GE402.out) | exact HB.out)⟩
       ·replace c32 := Bool.eq_false_iff.mpr c32
        subst c32
        rw [if_neg (show ¬ (false = true) by decide)] at H
        obtain rfl := Option.some.inj H
        have hnb60 := NB401_402.out
        have hnc60 := NB402_401.out
        have hcz61 := cells_11 BK401.out
        have hfz61 := frozen_11 BK401.out
        have hcz62 := cells_6 BK402.out
        have hfz62 := frozen_6 BK402.out
        go_wp2_with (first | ((with_reducible refine gate_callee (f := 79) rfl ?_); refine gom_ (some 61) Try.func79 (r33_nodes.calls kj17 a0_0 a0_1 a0_2 a0_3 a0_4 a0_5 a0_6 a0_7 a0_8 a0_9 _ _ l0_10 _ _ l1_0 _ _ l1_1 _ _ l1_2 _ _ l1_3 _ _ l1_4 _ _ l1_5 _ _ ?side1 HC0_10.out ?side3 HC1_0.out ?side5 HC1_1.out ?side7 HC1_2.out ?side9 HC1_3.out ?side11 HC1_4.out ?side13 HC1_5.out A31.out) ?_; (case side1 => repeat (first | exact (Kd.C_below HR0_10.out HB.out) | (with_reducible refine Kd.C_alloc ?_ _) | (with_reducible refine Kd.C_drewN ?_ _) | (with_reducible refine Kd.C_drew ?_))); (case side3 => repeat (first | exact (Kd.C_below HR1_0.out HB.out) | (with_reducible refine Kd.C_alloc ?_ _) | (with_reducible refine Kd.C_drewN ?_ _) | (with_reducible refine Kd.C_drew ?_))); (case side5 => repeat (first | exact (Kd.C_below HR1_1.out HB.out) | (with_reducible refine Kd.C_alloc ?_ _) | (with_reducible refine Kd.C_drewN ?_ _) | (with_reducible refine Kd.C_drew ?_))); (case side7 => repeat (first | exact (Kd.C_below HR1_2.out HB.out) | (with_reducible refine Kd.C_alloc ?_ _) | (with_reducible refine Kd.C_drewN ?_ _) | (with_reducible refine Kd.C_drew ?_))); (case side9 => repeat (first | exact (Kd.C_below HR1_3.out HB.out) | (with_reducible refine Kd.C_alloc ?_ _) | (with_reducible refine Kd.C_drewN ?_ _) | (with_reducible refine Kd.C_drew ?_))); (case side11 => repeat (first | exact (Kd.C_below HR1_4.out HB.out) | (with_reducible refine Kd.C_alloc ?_ _) | (with_reducible refine Kd.C_drewN ?_ _) | (with_reducible refine Kd.C_drew ?_))); (case side13 => repeat (first | exact (Kd.C_below HR1_5.out HB.out) | (with_reducible refine Kd.C_alloc ?_ _) | (with_reducible refine Kd.C_drewN ?_ _) | (with_reducible refine Kd.C_drew ?_))); rintro e w63 ⟨rfl, hb⟩; refine ⟨_, rfl, ?_⟩; replace BK401 := am_ (blk_below (by (with_reducible repeat (first | apply kn_ | apply kd_ | apply ka_)); exact BK401.out) hb); replace BK402 := am_ (blk_below (by (with_reducible repeat (first | apply kn_ | apply kd_ | apply ka_)); exact BK402.out) hb); replace HB := am_ (below_step (by repeat (first | (with_reducible first | exact HB.out | apply ba_ | apply bn_ | apply bd_ | refine bs_ ?_ GE401.out | refine bs_ ?_ GE402.out) | exact HB.out)) hb); (try clear hb)))
        go_ret
        exact ⟨by first | rfl | (simp [*] <;> rfl), by repeat (first | (with_reducible first | exact HB.out | apply ba_ | apply bn_ | apply bd_ | refine bs_ ?_ GE401.out | refine bs_ ?_ GE402.out) | exact HB.out)⟩
end Go.Proofs.Ythdoghhmooodjaa.Gn
