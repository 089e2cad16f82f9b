import Derived.Test.YtebflimijebbnaaZAcceptAllGn0
import Derived.Test.YtebflimijebbnaaZAcceptAllGn2
import Derived.Test.YtebflimijebbnaaZAcceptAllGn29
import Derived.Test.YtebflimijebbnaaZAcceptAllGn32
namespace Go.Proofs.Ytebflimijebbnaa.Gn
open Go.RowKit Go.Proofs.YtebflimijebbnaaW.PrintWords Go.Proofs.YtebflimijebbnaaW.PrintLast Go.Proofs.YtebflimijebbnaaW.PrintMore
attribute [local go_sem] max2_int min2_int max_two min_two max_three min_three max_four min_four   -- for this text's walks alone
set_option linter.unusedVariables false
set_option linter.unusedSimpArgs false
def r24_Take.f (k : Nat) (a0_0 a0_1 a0_2 a0_3 a0_4 a0_5 a0_6 a0_7 a0_8 a0_9 : Int) (l0_10 : List Int) (a1_0 a1_1 a1_2 : Int) (a1_3 : ByteArray) (a1_4 : Int) (a1_5 a1_6 : ByteArray) (a1_7 a1_8 : Int) (a1_9 a1_10 a1_11 a1_12 a1_13 a1_14 : ByteArray) (l1_15 : List (S99)) (l1_16 : List ByteArray) (l1_17 : List (S101)) (a1_18 a1_19 a1_20 a1_21 a1_22 a1_23 a2 : Int) (a3_0 : ByteArray) (a3_1 : Int) (a3_2 : ByteArray) (a3_3 a3_4 : Int) (a3_5 : ByteArray) : Option (ByteArray × ByteArray × Int × Int × Int × ByteArray × Int) := (r24_Check.f k a0_0 a0_1 a0_2 a0_3 a0_4 a0_5 a0_6 a0_7 a0_8 a0_9 l0_10 a1_0 a1_1 a1_2 a1_3 a1_4 a1_5 a1_6 a1_7 a1_8 a1_9 a1_10 a1_11 a1_12 a1_13 a1_14 l1_15 l1_16 l1_17 a1_18 a1_19 a1_20 a1_21 a1_22 a1_23 a2 a3_0 a3_1 a3_2 a3_3 a3_4 a3_5).bind fun t405 => (if t405 = 0 then ((r23_Mark.f k a1_11 (l0_10.length : Int) (([wrap64 (a3_3 - 1)] : List Int))).bind fun t409 => ((r23_Mark.f k a1_10 a0_0 (([a2] : List Int))).bind fun t413 => (some (t409, t413, a2, wrap64 (a3_3 - 1), a3_4, a3_5, 0)))) else (some ((⟨#[]⟩ : ByteArray), (⟨#[]⟩ : ByteArray), 0, 0, 0, (⟨#[]⟩ : ByteArray), t405)))
def r24_Take.T5 : Bool × List (List Nat × List Nat) := (true, [([], []), ([0], [0]), ([], []), ([2], [2]), ([3], [3]), ([], []), ([5], [5]), ([1, 4, 6], [1, 4, 6]), ([], []), ([8], [8]), ([], []), ([10], [10]), ([], []), ([12], [12]), ([9, 11, 13, 7], [9, 11, 13]), ([], []), ([], []), ([], []), ([17], [17]), ([], []), ([19], [19]), ([15, 16, 18, 20], [15, 16, 18, 20]), ([7, 14, 0, 1, 2, 3, 4, 5, 6, 7], [7]), ([14, 22, 0, 1, 2, 3, 4, 5, 6, 7, 8, 9, 10, 11, 12, 13, 14, 22], [14]), ([21, 23, 0, 1, 2, 3, 4, 5, 6, 7, 8, 9, 10, 11, 12, 13, 14, 15, 16, 17, 18, 19, 20, 21, 22, 23], [21]), ([24, 0, 1, 2, 3, 4, 5, 6, 7, 8, 9, 10, 11, 12, 13, 14, 15, 16, 17, 18, 19, 20, 21, 22, 23, 24], [])])
def r24_Take.B5 : List Nat := [0, 1, 0, 4, 12, 0, 32, 127, 0, 256, 0, 1024, 0, 4096, 16383, 0, 0, 0, 131072, 0, 524288, 2064384, 32767, 4227071, 16777215, 33554431]
theorem r24_Take.tab5 : rtab .any (opsOf Try.f9 5) = r24_Take.T5 := by kernel_rfl
theorem r24_Take.bits5 : waitsOk r24_Take.T5.2 r24_Take.B5 = true := by kernel_rfl
set_option maxHeartbeats 8000000 in
set_option maxRecDepth 100000 in
theorem r24_Take.calls (k : Nat) (a0_0 a0_1 a0_2 a0_3 a0_4 a0_5 a0_6 a0_7 a0_8 a0_9 : Int) (A0_10 : Option Addr) (c0_10 : Nat) (l0_10 : List Int) (a1_0 a1_1 a1_2 : Int) (a1_3 : ByteArray) (a1_4 : Int) (a1_5 a1_6 : ByteArray) (a1_7 a1_8 : Int) (a1_9 a1_10 a1_11 a1_12 a1_13 a1_14 : ByteArray) (A1_15 : Option Addr) (c1_15 : Nat) (l1_15 : List (S99)) (A1_16 : Option Addr) (c1_16 : Nat) (l1_16 : List ByteArray) (A1_17 : Option Addr) (c1_17 : Nat) (l1_17 : List (S101)) (a1_18 a1_19 a1_20 a1_21 a1_22 a1_23 a2 : Int) (a3_0 : ByteArray) (a3_1 : Int) (a3_2 : ByteArray) (a3_3 a3_4 : Int) (a3_5 r1 r2 : ByteArray) (r3 r4 r5 : Int) (r6 : ByteArray) (r7 : Int) (w : World) (hr0_10 : Kd.C (Kd.int .i64) w A0_10 l0_10.length l0_10) (hc0_10 : l0_10.length ≤ c0_10) (hr1_15 : Kd.C k99 w A1_15 l1_15.length l1_15) (hc1_15 : l1_15.length ≤ c1_15) (hr1_16 : Kd.C Kd.string w A1_16 l1_16.length l1_16) (hc1_16 : l1_16.length ≤ c1_16) (hr1_17 : Kd.C k101 w A1_17 l1_17.length l1_17) (hc1_17 : l1_17.length ≤ c1_17) (h : r24_Take.f k a0_0 a0_1 a0_2 a0_3 a0_4 a0_5 a0_6 a0_7 a0_8 a0_9 l0_10 a1_0 a1_1 a1_2 a1_3 a1_4 a1_5 a1_6 a1_7 a1_8 a1_9 a1_10 a1_11 a1_12 a1_13 a1_14 l1_15 l1_16 l1_17 a1_18 a1_19 a1_20 a1_21 a1_22 a1_23 a2 a3_0 a3_1 a3_2 a3_3 a3_4 a3_5 = some (r1, r2, r3, r4, r5, r6, r7)) :
  Calls Try.prog 9 #[.agg #[.int .i64 a0_0, .int .i64 a0_1, .int .i64 a0_2, .int .i64 a0_3, .int .i64 a0_4, .int .i64 a0_5, .int .i64 a0_6, .int .i64 a0_7, .int .i64 a0_8, .int .i64 a0_9, .slice A0_10 l0_10.length c0_10], .agg #[.int .i64 a1_0, .int .i64 a1_1, .int .i64 a1_2, .string a1_3, .int .i64 a1_4, .string a1_5, .string a1_6, .int .i64 a1_7, .int .i64 a1_8, .string a1_9, .string a1_10, .string a1_11, .string a1_12, .string a1_13, .string a1_14, .slice A1_15 l1_15.length c1_15, .slice A1_16 l1_16.length c1_16, .slice A1_17 l1_17.length c1_17, .int .i64 a1_18, .int .i64 a1_19, .int .i64 a1_20, .int .i64 a1_21, .int .i64 a1_22, .int .i64 a1_23], .int .i64 a2, .agg #[.string a3_0, .int .i64 a3_1, .string a3_2, .int .i64 a3_3, .int .i64 a3_4, .string a3_5]] w fun e w' => e = .returned (.tuple #[.string r1, .string r2, .agg #[.int .i64 r3, .int .i64 r4, .int .i64 r5, .string r6], .int .i64 r7]) ∧ Below w.heap.size w w' := by
 have hu24 := Try.underlying24
 have hu32 := Try.underlying32
 have hu35 := Try.underlying35
 have HR0_10 := Aside0.mk hr0_10
 have HC0_10 := Aside0.mk hc0_10
 clear hr0_10 hc0_10
 have HR1_15 := Aside0.mk hr1_15
 have HC1_15 := Aside0.mk hc1_15
 clear hr1_15 hc1_15
 have HR1_16 := Aside0.mk hr1_16
 have HC1_16 := Aside0.mk hc1_16
 clear hr1_16 hc1_16
 have HR1_17 := Aside0.mk hr1_17
 have HC1_17 := Aside0.mk hc1_17
 clear hr1_17 hc1_17
 have HB := Aside0.mk (Below.refl w.heap.size w)
 have H : ((r24_Check.f k a0_0 a0_1 a0_2 a0_3 a0_4 a0_5 a0_6 a0_7 a0_8 a0_9 l0_10 a1_0 a1_1 a1_2 a1_3 a1_4 a1_5 a1_6 a1_7 a1_8 a1_9 a1_10 a1_11 a1_12 a1_13 a1_14 l1_15 l1_16 l1_17 a1_18 a1_19 a1_20 a1_21 a1_22 a1_23 a2 a3_0 a3_1 a3_2 a3_3 a3_4 a3_5).bind fun t405 => (if t405 = 0 then ((r23_Mark.f k a1_11 (l0_10.length : Int) (([wrap64 (a3_3 - 1)] : List Int))).bind fun t409 => ((r23_Mark.f k a1_10 a0_0 (([a2] : List Int))).bind fun t413 => (some (t409, t413, a2, wrap64 (a3_3 - 1), a3_4, a3_5, 0)))) else (some ((⟨#[]⟩ : ByteArray), (⟨#[]⟩ : ByteArray), 0, 0, 0, (⟨#[]⟩ : ByteArray), t405)))) = some (r1, r2, r3, r4, r5, r6, r7) := h
 clear h
 replace H := Option.bind_eq_some_iff.mp H
 obtain ⟨t405, A50, H⟩ := H
 try dsimp only at H
 have A5 := Aside0.mk A50
 clear A50
 by_cases c6 : t405 = 0
 ·rw [if_pos c6] at H
  have c6b0 : (t405 == 0) = true := beq_iff_eq.mpr c6
  have c6b1 : (t405 != 0) = false := bne_eq_false_iff_eq.mpr c6
  clear c6
  obtain ⟨y406, hy406⟩ : ∃ y_ : List Int, y_ = (([wrap64 (a3_3 - 1)] : List Int)) := ⟨_, rfl⟩
  replace H : ((r23_Mark.f k a1_11 (l0_10.length : Int) y406).bind fun t409 => ((r23_Mark.f k a1_10 a0_0 (([a2] : List Int))).bind fun t413 => (some (t409, t413, a2, wrap64 (a3_3 - 1), a3_4, a3_5, 0)))) = some (r1, r2, r3, r4, r5, r6, r7) := by first | (rw [hy406]; with_reducible exact H) | (have H2_ := (Option.bind_some _ _).symm.trans H; rw [hy406]; with_reducible exact H2_) | (have H2_ := (Option.bind_some _ _).symm.trans H; with_reducible exact H2_) | with_reducible exact H | (rw [hy406]; exact H) | exact H
  have Ny406 := Aside0.mk hy406
  clear hy406
  replace H := Option.bind_eq_some_iff.mp H
  obtain ⟨t409, A70, H⟩ := H
  try dsimp only at H
  have A7 := Aside0.mk A70
  clear A70
  obtain ⟨y410, hy410⟩ : ∃ y_ : List Int, y_ = (([a2] : List Int)) := ⟨_, rfl⟩
  replace H : ((r23_Mark.f k a1_10 a0_0 y410).bind fun t413 => (some (t409, t413, a2, wrap64 (a3_3 - 1), a3_4, a3_5, 0))) = some (r1, r2, r3, r4, r5, r6, r7) := by first | (rw [hy410]; with_reducible exact H) | (have H2_ := (Option.bind_some _ _).symm.trans H; rw [hy410]; with_reducible exact H2_) | (have H2_ := (Option.bind_some _ _).symm.trans H; with_reducible exact H2_) | with_reducible exact H | (rw [hy410]; exact H) | exact H
  have Ny410 := Aside0.mk hy410
  clear hy410
  replace H := Option.bind_eq_some_iff.mp H
  obtain ⟨t413, A80, H⟩ := H
  try dsimp only at H
  have A8 := Aside0.mk A80
  clear A80
  simp only [Option.some.injEq, Prod.mk.injEq] at H
  obtain ⟨rfl, rfl, rfl, rfl, rfl, rfl, rfl⟩ := H
  go_enter Try.func9, Try.ntmps9
  try go_wp2_with (first | ((with_reducible refine gate_load (t := 30) (x := .tmp 5) rfl ?_); refine load_row_g (cs := ?_) ?hw 30 (.tmp 5) ?h2 gb402 ?hx 30 (fr := (0, 0)) (d := ?_) ?hg ?h3 ?h4 ?hi ?_; (case hw => first | (with_reducible rfl) | (go_simp; done) | rfl); (case h2 => rfl); (case hx => first | (with_reducible rfl) | (go_simp; done) | rfl); (case hg => (with_reducible repeat (first | refine blk_drewN ?_ _ | refine blk_drew ?_ | refine blk_alloc ?_ _)); with_reducible exact BK402.out); (case h3 => exact Try.underlying30); (case h4 => rfl); (case hi => kernel_rfl)) | ((with_reducible refine gate_dst (N := 4) rfl ?_); refine box_event ?hg (N := 4) ?hd (cs := #[.int .i64 a0_0, .int .i64 a0_1, .int .i64 a0_2, .int .i64 a0_3, .int .i64 a0_4, .int .i64 a0_5, .int .i64 a0_6, .int .i64 a0_7, .int .i64 a0_8, .int .i64 a0_9, .slice A0_10 l0_10.length c0_10]) (t := 24) ?hr ?_; (case hd => rfl); (case hg => rfl); (case hr => first | (go_simp; done) | (go_simp; rfl)); intro gb401 hg w9 hbox hb; have BK401 := Aside0.mk (hbox); have GW401 := Aside0.mk ((by rw [hg]; exact (below_size HB.out) : w.heap.size ≤ gb401)); have GE401 := GW401; replace HB := Aside0.mk (below_step HB.out hb); clear hb hbox hg) | ((with_reducible refine gate_dst (N := 5) rfl ?_); refine box_event ?hg (N := 5) ?hd (cs := #[.int .i64 a1_0, .int .i64 a1_1, .int .i64 a1_2, .string a1_3, .int .i64 a1_4, .string a1_5, .string a1_6, .int .i64 a1_7, .int .i64 a1_8, .string a1_9, .string a1_10, .string a1_11, .string a1_12, .string a1_13, .string a1_14, .slice A1_15 l1_15.length c1_15, .slice A1_16 l1_16.length c1_16, .slice A1_17 l1_17.length c1_17, .int .i64 a1_18, .int .i64 a1_19, .int .i64 a1_20, .int .i64 a1_21, .int .i64 a1_22, .int .i64 a1_23]) (t := 30) ?hr ?_; (case hd => rfl); (case hg => rfl); (case hr => first | (go_simp; done) | (go_simp; rfl)); intro gb402 hg w10 hbox hb; have BK402 := Aside0.mk (hbox); have GW402 := Aside0.mk ((by rw [hg]; exact (below_size HB.out) : w.heap.size ≤ gb402)); have GE402 := GW402; replace HB := Aside0.mk (below_step HB.out hb); have NB401_402 := Aside0.mk ((by rw [hg]; exact Nat.ne_of_lt (blk_lt BK401.out) : gb401 ≠ gb402)); have NB402_401 := Aside0.mk NB401_402.out.symm; replace BK401 := Aside0.mk (blk_below BK401.out hb); clear hb hbox hg) | ((with_reducible refine gate_dst (N := 7) rfl ?_); refine box_event ?hg (N := 7) ?hd (cs := #[.string a3_0, .int .i64 a3_1, .string a3_2, .int .i64 a3_3, .int .i64 a3_4, .string a3_5]) (t := 32) ?hr ?_; (case hd => rfl); (case hg => rfl); (case hr => first | (go_simp; done) | (go_simp; rfl)); intro gb403 hg w11 hbox hb; have BK403 := Aside0.mk (hbox); have GW403 := Aside0.mk ((by rw [hg]; exact (below_size HB.out) : w.heap.size ≤ gb403)); have GE403 := GW403; replace HB := Aside0.mk (below_step HB.out hb); have NB401_403 := Aside0.mk ((by rw [hg]; exact Nat.ne_of_lt (blk_lt BK401.out) : gb401 ≠ gb403)); have NB403_401 := Aside0.mk NB401_403.out.symm; replace BK401 := Aside0.mk (blk_below BK401.out hb); have NB402_403 := Aside0.mk ((by rw [hg]; exact Nat.ne_of_lt (blk_lt BK402.out) : gb402 ≠ gb403)); have NB403_402 := Aside0.mk NB402_403.out.symm; replace BK402 := Aside0.mk (blk_below BK402.out hb); clear hb hbox hg) | ((with_reducible refine gate_dst (N := 10) rfl ?_); refine box_event ?hg (N := 10) ?hd (cs := #[.int .i64 0, .int .i64 0, .int .i64 0, .string (⟨#[]⟩ : ByteArray)]) (t := 35) ?hr ?_; (case hd => rfl); (case hg => rfl); (case hr => first | (go_simp; done) | (go_simp; rfl)); intro gb404 hg w12 hbox hb; have BK404 := Aside0.mk (hbox); have GW404 := Aside0.mk ((by rw [hg]; exact (below_size HB.out) : w.heap.size ≤ gb404)); have GE404 := GW404; replace HB := Aside0.mk (below_step HB.out hb); have NB401_404 := Aside0.mk ((by rw [hg]; exact Nat.ne_of_lt (blk_lt BK401.out) : gb401 ≠ gb404)); have NB404_401 := Aside0.mk NB401_404.out.symm; replace BK401 := Aside0.mk (blk_below BK401.out hb); have NB402_404 := Aside0.mk ((by rw [hg]; exact Nat.ne_of_lt (blk_lt BK402.out) : gb402 ≠ gb404)); have NB404_402 := Aside0.mk NB402_404.out.symm; replace BK402 := Aside0.mk (blk_below BK402.out hb); have NB403_404 := Aside0.mk ((by rw [hg]; exact Nat.ne_of_lt (blk_lt BK403.out) : gb403 ≠ gb404)); have NB404_403 := Aside0.mk NB403_404.out.symm; replace BK403 := Aside0.mk (blk_below BK403.out hb); clear hb hbox hg; have hnb13 := NB401_402.out; have hnc13 := NB402_401.out; have hnb14 := NB401_403.out; have hnc14 := NB403_401.out; have hnb15 := NB401_404.out; have hnc15 := NB404_401.out; obtain ⟨hcz16_0, hcz16_1, hcz16_2, hcz16_3, hcz16_4, hcz16_5, hcz16_6, hcz16_7, hcz16_8, hcz16_9, hcz16_10⟩ := cells_11 BK401.out; obtain ⟨hfz16_0, hfz16_1, hfz16_2, hfz16_3, hfz16_4, hfz16_5, hfz16_6, hfz16_7, hfz16_8, hfz16_9, hfz16_10⟩ := frozen_11 BK401.out; have hnb17 := NB402_403.out; have hnc17 := NB403_402.out; have hnb18 := NB402_404.out; have hnc18 := NB404_402.out; have hall1_ := cells_24 BK402.out; have hall2_ := frozen_24 BK402.out; have hnb20 := NB403_404.out; have hnc20 := NB404_403.out; obtain ⟨hcz21_0, hcz21_1, hcz21_2, hcz21_3, hcz21_4, hcz21_5⟩ := cells_6 BK403.out; obtain ⟨hfz21_0, hfz21_1, hfz21_2, hfz21_3, hfz21_4, hfz21_5⟩ := frozen_6 BK403.out) | ((with_reducible refine gate_callee (f := 11) rfl ?_); refine goesL_ (some 18) rfl rfl Try.func11 (by kernel_rfl) rfl #[.agg #[.int .i64 a0_0, .int .i64 a0_1, .int .i64 a0_2, .int .i64 a0_3, .int .i64 a0_4, .int .i64 a0_5, .int .i64 a0_6, .int .i64 a0_7, .int .i64 a0_8, .int .i64 a0_9, .slice A0_10 l0_10.length c0_10], .agg #[.int .i64 a1_0, .int .i64 a1_1, .int .i64 a1_2, .string a1_3, .int .i64 a1_4, .string a1_5, .string a1_6, .int .i64 a1_7, .int .i64 a1_8, .string a1_9, .string a1_10, .string a1_11, .string a1_12, .string a1_13, .string a1_14, .slice A1_15 l1_15.length c1_15, .slice A1_16 l1_16.length c1_16, .slice A1_17 l1_17.length c1_17, .int .i64 a1_18, .int .i64 a1_19, .int .i64 a1_20, .int .i64 a1_21, .int .i64 a1_22, .int .i64 a1_23], .int .i64 a2, .agg #[.string a3_0, .int .i64 a3_1, .string a3_2, .int .i64 a3_3, .int .i64 a3_4, .string a3_5]] rfl (by (try simp only [List.map_toArray, List.map_cons, List.map_nil]); first | done | rfl) ?_; (with_reducible refine (r24_Check.calls k a0_0 a0_1 a0_2 a0_3 a0_4 a0_5 a0_6 a0_7 a0_8 a0_9 _ _ l0_10 a1_0 a1_1 a1_2 a1_3 a1_4 a1_5 a1_6 a1_7 a1_8 a1_9 a1_10 a1_11 a1_12 a1_13 a1_14 _ _ l1_15 _ _ l1_16 _ _ l1_17 a1_18 a1_19 a1_20 a1_21 a1_22 a1_23 a2 a3_0 a3_1 a3_2 a3_3 a3_4 a3_5 t405 _ ?side1 ?side2 ?side3 ?side4 ?side5 ?side6 ?side7 ?side8 A5.out).mono ?_); (case side1 => exact (Kd.C_below HR0_10.out HB.out)); (case side2 => exact HC0_10.out); (case side3 => exact (Kd.C_below HR1_15.out HB.out)); (case side4 => exact HC1_15.out); (case side5 => exact (Kd.C_below HR1_16.out HB.out)); (case side6 => exact HC1_16.out); (case side7 => exact (Kd.C_below HR1_17.out HB.out)); (case side8 => exact HC1_17.out); rintro e w22 ⟨rfl, hb⟩; refine ⟨_, rfl, ?_⟩; replace BK401 := Aside0.mk (blk_below BK401.out hb); replace BK402 := Aside0.mk (blk_below BK402.out hb); replace BK403 := Aside0.mk (blk_below BK403.out hb); replace BK404 := Aside0.mk (blk_below BK404.out hb); replace HB := Aside0.mk (below_step HB.out hb); (try clear hb); obtain ⟨hcz23_0, hcz23_1, hcz23_2, hcz23_3, hcz23_4, hcz23_5⟩ := cells_6 BK403.out; obtain ⟨hfz23_0, hfz23_1, hfz23_2, hfz23_3, hfz23_4, hfz23_5⟩ := frozen_6 BK403.out))
  replace BK401 := Aside0.mk (blk_drew BK401.out)
  replace BK402 := Aside0.mk (blk_drew BK402.out)
  replace BK403 := Aside0.mk (blk_drew BK403.out)
  replace BK404 := Aside0.mk (blk_drew BK404.out)
  replace HB := Aside0.mk (below_drew1 HB.out)
  refine start_ (n := 26) (S := fun w' => True) (ds := []) #[false, false, false, false, false, false, false, false, false, false, false, false, false, false, false, false, false, false, false, false, false, false, false, false, false, false] (by kernel_rfl) rfl rfl trivial (fun hHeld => ?_); refine with_tabW r24_Take.tab5 r24_Take.bits5 (fun HT_ HW_ => ?_)
  generalize w22.drew = w24 at BK401 BK402 BK403 BK404 HB hHeld ⊢
  refine pure_ (i := 0) (N := some 26) (v := ?_) (a' := ?_) #[true, false, false, false, false, false, false, false, false, false, false, false, false, false, false, false, false, false, false, false, false, false, false, false, false, false] rfl rfl (any_of HT_.out (by kernel_rfl)) (fun _ _ _ h => h) (Or.inl ⟨by rfl, ?_⟩) ?_ ?_
  rotate_left
  ·intro w'
   go_simp
   with_reducible rfl
  rotate_left
  ·simp only [Act.put, List.setIfInBounds_toArray, List.set_cons_zero, List.set_cons_succ, i64_w, i32_w]
   rfl
  refine pure_ (i := 2) (N := some 28) (v := ?_) (a' := ?_) #[true, false, true, false, false, false, false, false, false, false, false, false, false, false, false, false, false, false, false, false, false, false, false, false, false, false] rfl rfl (any_of HT_.out (by kernel_rfl)) (fun _ _ _ h => h) (Or.inl ⟨by rfl, ?_⟩) ?_ ?_
  rotate_left
  ·intro w'
   go_simp
   with_reducible rfl
  rotate_left
  ·simp only [Act.put, List.setIfInBounds_toArray, List.set_cons_zero, List.set_cons_succ, i64_w, i32_w]
   rfl
  refine pure_ (i := 5) (N := some 31) (v := ?_) (a' := ?_) #[true, false, true, false, false, true, false, false, false, false, false, false, false, false, false, false, false, false, false, false, false, false, false, false, false, false] rfl rfl (any_of HT_.out (by kernel_rfl)) (fun _ _ _ h => h) (Or.inl ⟨by rfl, ?_⟩) ?_ ?_
  rotate_left
  ·intro w'
   go_simp
   with_reducible rfl
  rotate_left
  ·simp only [Act.put, List.setIfInBounds_toArray, List.set_cons_zero, List.set_cons_succ, i64_w, i32_w]
   rfl
  refine pure_ (i := 8) (N := some 34) (v := ?_) (a' := ?_) #[true, false, true, false, false, true, false, false, true, false, false, false, false, false, false, false, false, false, false, false, false, false, false, false, false, false] rfl rfl (any_of HT_.out (by kernel_rfl)) (fun _ _ _ h => h) (Or.inl ⟨by rfl, ?_⟩) ?_ ?_
  rotate_left
  ·intro w'
   go_simp
   with_reducible rfl
  rotate_left
  ·simp only [Act.put, List.setIfInBounds_toArray, List.set_cons_zero, List.set_cons_succ, i64_w, i32_w]
   rfl
  refine pure_ (i := 10) (N := some 36) (v := ?_) (a' := ?_) #[true, false, true, false, false, true, false, false, true, false, true, false, false, false, false, false, false, false, false, false, false, false, false, false, false, false] rfl rfl (any_of HT_.out (by kernel_rfl)) (fun _ _ _ h => h) (Or.inl ⟨by rfl, ?_⟩) ?_ ?_
  rotate_left
  ·intro w'
   go_simp
   with_reducible rfl
  rotate_left
  ·simp only [Act.put, List.setIfInBounds_toArray, List.set_cons_zero, List.set_cons_succ, i64_w, i32_w]
   rfl
  refine pure_ (i := 12) (N := some 38) (v := ?_) (a' := ?_) #[true, false, true, false, false, true, false, false, true, false, true, false, true, false, false, false, false, false, false, false, false, false, false, false, false, false] rfl rfl (any_of HT_.out (by kernel_rfl)) (fun _ _ _ h => h) (Or.inl ⟨by rfl, ?_⟩) ?_ ?_
  rotate_left
  ·intro w'
   go_simp
   with_reducible rfl
  rotate_left
  ·simp only [Act.put, List.setIfInBounds_toArray, List.set_cons_zero, List.set_cons_succ, i64_w, i32_w]
   rfl
  refine pure_ (i := 15) (N := some 41) (v := ?_) (a' := ?_) #[true, false, true, false, false, true, false, false, true, false, true, false, true, false, false, true, false, false, false, false, false, false, false, false, false, false] rfl rfl (any_of HT_.out (by kernel_rfl)) (fun _ _ _ h => h) (Or.inl ⟨by rfl, ?_⟩) ?_ ?_
  rotate_left
  ·intro w'
   go_simp
   with_reducible rfl
  rotate_left
  ·simp only [Act.put, List.setIfInBounds_toArray, List.set_cons_zero, List.set_cons_succ, i64_w, i32_w]
   rfl
  refine pure_ (i := 16) (N := some 42) (v := ?_) (a' := ?_) #[true, false, true, false, false, true, false, false, true, false, true, false, true, false, false, true, true, false, false, false, false, false, false, false, false, false] rfl rfl (any_of HT_.out (by kernel_rfl)) (fun _ _ _ h => h) (Or.inl ⟨by rfl, ?_⟩) ?_ ?_
  rotate_left
  ·intro w'
   go_simp
   with_reducible rfl
  rotate_left
  ·simp only [Act.put, List.setIfInBounds_toArray, List.set_cons_zero, List.set_cons_succ, i64_w, i32_w]
   rfl
  refine pure_ (i := 17) (N := some 43) (v := ?_) (a' := ?_) #[true, false, true, false, false, true, false, false, true, false, true, false, true, false, false, true, true, true, false, false, false, false, false, false, false, false] rfl rfl (any_of HT_.out (by kernel_rfl)) (fun _ _ _ h => h) (Or.inl ⟨by rfl, ?_⟩) ?_ ?_
  rotate_left
  ·intro w'
   go_simp
   with_reducible rfl
  rotate_left
  ·simp only [Act.put, List.setIfInBounds_toArray, List.set_cons_zero, List.set_cons_succ, i64_w, i32_w]
   rfl
  refine pure_ (i := 19) (N := some 45) (v := ?_) (a' := ?_) #[true, false, true, false, false, true, false, false, true, false, true, false, true, false, false, true, true, true, false, true, false, false, false, false, false, false] rfl rfl (any_of HT_.out (by kernel_rfl)) (fun _ _ _ h => h) (Or.inl ⟨by rfl, ?_⟩) ?_ ?_
  rotate_left
  ·intro w'
   go_simp
   with_reducible rfl
  rotate_left
  ·simp only [Act.put, List.setIfInBounds_toArray, List.set_cons_zero, List.set_cons_succ, i64_w, i32_w]
   rfl
  refine inv_at [1, 3, 4, 6, 7, 9, 11, 13, 14, 18, 20, 21, 22, 23, 24, 25] (fun a0_ b a w' => ∃ (v407 : Value) (v411 : Value), a = putSel a0_ b [(1, 27, .string a1_11), (3, 29, .slice A0_10 l0_10.length c0_10), (4, 30, .int .i64 (l0_10.length : Int)), (6, 32, v407), (7, 33, .string t409), (9, 35, .string a1_10), (11, 37, .int .i64 a0_0), (13, 39, v411), (14, 40, .string t413), (18, 44, .int .i64 a3_4), (20, 46, .string a3_5), (21, 47, .agg #[.int .i64 a2, .int .i64 (wrap64 (a3_3 - 1)), .int .i64 a3_4, .string a3_5]), (22, 8, .string t409), (23, 9, .string t413), (25, 11, .int .i64 0)] ∧ (w'.heap[gb401]? = some (.cells #[.int .i64 a0_0, .int .i64 a0_1, .int .i64 a0_2, .int .i64 a0_3, .int .i64 a0_4, .int .i64 a0_5, .int .i64 a0_6, .int .i64 a0_7, .int .i64 a0_8, .int .i64 a0_9, .slice A0_10 l0_10.length c0_10] 24 (0, 0))) ∧ (w'.heap[gb402]? = some (.cells #[.int .i64 a1_0, .int .i64 a1_1, .int .i64 a1_2, .string a1_3, .int .i64 a1_4, .string a1_5, .string a1_6, .int .i64 a1_7, .int .i64 a1_8, .string a1_9, .string a1_10, .string a1_11, .string a1_12, .string a1_13, .string a1_14, .slice A1_15 l1_15.length c1_15, .slice A1_16 l1_16.length c1_16, .slice A1_17 l1_17.length c1_17, .int .i64 a1_18, .int .i64 a1_19, .int .i64 a1_20, .int .i64 a1_21, .int .i64 a1_22, .int .i64 a1_23] 30 (0, 0))) ∧ (w'.heap[gb403]? = some (.cells #[.string a3_0, .int .i64 a3_1, .string a3_2, .int .i64 a3_3, .int .i64 a3_4, .string a3_5] 32 (0, 0))) ∧ (b 24 = false → w'.heap[gb404]? = some (.cells #[.int .i64 0, .int .i64 0, .int .i64 0, .string (⟨#[]⟩ : ByteArray)] 35 (0, 0))) ∧ (Below w.heap.size w w') ∧ (b 6 = true → Kd.R (Kd.int .i64) 3 w' w.heap.size (fun _ => True) v407 y406) ∧ (b 13 = true → Kd.R (Kd.int .i64) 3 w' w.heap.size (fun _ => True) v411 y410) ∧ (b 24 = true → w'.heap[gb404]? = some (.cells #[.int .i64 a2, .int .i64 (wrap64 (a3_3 - 1)), .int .i64 a3_4, .string a3_5] 35 (0, 0)))) HT_.out HW_.out (by kernel_rfl) (by kernel_rfl) ?_ ?_ ?_
  ·exact ⟨.bool false, .bool false, by simp only [putSel, Bool.false_eq_true, if_false], BK401.out, BK402.out, BK403.out, fun _ => BK404.out, HB.out, fun h_ => absurd h_ (by decide), fun h_ => absurd h_ (by decide), fun h_ => absurd h_ (by decide)⟩
  ·skip
   clear BK401 BK402 BK403 BK404 HB
   refine steps_cons ?_ ?_
   ·rintro b a w' ⟨v407, v411, ha, Q_BK401, Q_BK402, Q_BK403, Q_BK404, Q_HB, Q_HO408, Q_HO412, Q_BK404_e24⟩ hb_ hon hoff
    refine ⟨_, rfl, fun K hK => ?_⟩
    have e26 : a.tmps[26]? = some (.pointer (some ⟨gb402, 11, none⟩)) := by rw [ha]; exact (putSel_off rfl).trans rfl
    replace ha := Aside0.mk ha
    have BK401 := Aside0.mk Q_BK401
    have BK402 := Aside0.mk Q_BK402
    have BK403 := Aside0.mk Q_BK403
    have BK404 := Aside0.mk (Q_BK404 (hoff 24 (by kernel_rfl)))
    have HB := Aside0.mk Q_HB
    have hc0_ : w'.cell? ⟨gb402, 0, none⟩ = some (.int .i64 a1_0) := (blk_cell BK402.out 0).trans rfl
    have hc1_ : w'.cell? ⟨gb402, 1, none⟩ = some (.int .i64 a1_1) := (blk_cell BK402.out 1).trans rfl
    have hc2_ : w'.cell? ⟨gb402, 2, none⟩ = some (.int .i64 a1_2) := (blk_cell BK402.out 2).trans rfl
    have hc3_ : w'.cell? ⟨gb402, 3, none⟩ = some (.string a1_3) := (blk_cell BK402.out 3).trans rfl
    have hc4_ : w'.cell? ⟨gb402, 4, none⟩ = some (.int .i64 a1_4) := (blk_cell BK402.out 4).trans rfl
    have hc5_ : w'.cell? ⟨gb402, 5, none⟩ = some (.string a1_5) := (blk_cell BK402.out 5).trans rfl
    have hc6_ : w'.cell? ⟨gb402, 6, none⟩ = some (.string a1_6) := (blk_cell BK402.out 6).trans rfl
    have hc7_ : w'.cell? ⟨gb402, 7, none⟩ = some (.int .i64 a1_7) := (blk_cell BK402.out 7).trans rfl
    have hc8_ : w'.cell? ⟨gb402, 8, none⟩ = some (.int .i64 a1_8) := (blk_cell BK402.out 8).trans rfl
    have hc9_ : w'.cell? ⟨gb402, 9, none⟩ = some (.string a1_9) := (blk_cell BK402.out 9).trans rfl
    have hc10_ : w'.cell? ⟨gb402, 10, none⟩ = some (.string a1_10) := (blk_cell BK402.out 10).trans rfl
    have hc11_ : w'.cell? ⟨gb402, 11, none⟩ = some (.string a1_11) := (blk_cell BK402.out 11).trans rfl
    have hc12_ : w'.cell? ⟨gb402, 12, none⟩ = some (.string a1_12) := (blk_cell BK402.out 12).trans rfl
    have hc13_ : w'.cell? ⟨gb402, 13, none⟩ = some (.string a1_13) := (blk_cell BK402.out 13).trans rfl
    have hc14_ : w'.cell? ⟨gb402, 14, none⟩ = some (.string a1_14) := (blk_cell BK402.out 14).trans rfl
    have hc15_ : w'.cell? ⟨gb402, 15, none⟩ = some (.slice A1_15 l1_15.length c1_15) := (blk_cell BK402.out 15).trans rfl
    have hc16_ : w'.cell? ⟨gb402, 16, none⟩ = some (.slice A1_16 l1_16.length c1_16) := (blk_cell BK402.out 16).trans rfl
    have hc17_ : w'.cell? ⟨gb402, 17, none⟩ = some (.slice A1_17 l1_17.length c1_17) := (blk_cell BK402.out 17).trans rfl
    have hc18_ : w'.cell? ⟨gb402, 18, none⟩ = some (.int .i64 a1_18) := (blk_cell BK402.out 18).trans rfl
    have hc19_ : w'.cell? ⟨gb402, 19, none⟩ = some (.int .i64 a1_19) := (blk_cell BK402.out 19).trans rfl
    have hc20_ : w'.cell? ⟨gb402, 20, none⟩ = some (.int .i64 a1_20) := (blk_cell BK402.out 20).trans rfl
    have hc21_ : w'.cell? ⟨gb402, 21, none⟩ = some (.int .i64 a1_21) := (blk_cell BK402.out 21).trans rfl
    have hc22_ : w'.cell? ⟨gb402, 22, none⟩ = some (.int .i64 a1_22) := (blk_cell BK402.out 22).trans rfl
    have hc23_ : w'.cell? ⟨gb402, 23, none⟩ = some (.int .i64 a1_23) := (blk_cell BK402.out 23).trans rfl
    refine value_ (w1 := w') (v := .string a1_11) (by rfl) rfl ?_ ?_
    ·go_simp
     (try simp only [i64_w])
     try rfl
    refine hK.out _ _ ⟨v407, v411, (by rw [ha.out]; exact putSel_upk 0 hb_ rfl rfl rfl), Q_BK401, Q_BK402, Q_BK403, Q_BK404, Q_HB, Q_HO408, Q_HO412, fun h0_ => absurd ((hoff 24 (by kernel_rfl)).symm.trans h0_) (by decide)⟩
   refine steps_cons ?_ ?_
   ·rintro b a w' ⟨v407, v411, ha, Q_BK401, Q_BK402, Q_BK403, Q_BK404, Q_HB, Q_HO408, Q_HO412, Q_BK404_e24⟩ hb_ hon hoff
    refine ⟨_, rfl, fun K hK => ?_⟩
    have e28 : a.tmps[28]? = some (.pointer (some ⟨gb401, 10, none⟩)) := by rw [ha]; exact (putSel_off rfl).trans rfl
    replace ha := Aside0.mk ha
    have BK401 := Aside0.mk Q_BK401
    have BK402 := Aside0.mk Q_BK402
    have BK403 := Aside0.mk Q_BK403
    have BK404 := Aside0.mk (Q_BK404 (hoff 24 (by kernel_rfl)))
    have HB := Aside0.mk Q_HB
    have hc0_ : w'.cell? ⟨gb401, 0, none⟩ = some (.int .i64 a0_0) := (blk_cell BK401.out 0).trans rfl
    have hc1_ : w'.cell? ⟨gb401, 1, none⟩ = some (.int .i64 a0_1) := (blk_cell BK401.out 1).trans rfl
    have hc2_ : w'.cell? ⟨gb401, 2, none⟩ = some (.int .i64 a0_2) := (blk_cell BK401.out 2).trans rfl
    have hc3_ : w'.cell? ⟨gb401, 3, none⟩ = some (.int .i64 a0_3) := (blk_cell BK401.out 3).trans rfl
    have hc4_ : w'.cell? ⟨gb401, 4, none⟩ = some (.int .i64 a0_4) := (blk_cell BK401.out 4).trans rfl
    have hc5_ : w'.cell? ⟨gb401, 5, none⟩ = some (.int .i64 a0_5) := (blk_cell BK401.out 5).trans rfl
    have hc6_ : w'.cell? ⟨gb401, 6, none⟩ = some (.int .i64 a0_6) := (blk_cell BK401.out 6).trans rfl
    have hc7_ : w'.cell? ⟨gb401, 7, none⟩ = some (.int .i64 a0_7) := (blk_cell BK401.out 7).trans rfl
    have hc8_ : w'.cell? ⟨gb401, 8, none⟩ = some (.int .i64 a0_8) := (blk_cell BK401.out 8).trans rfl
    have hc9_ : w'.cell? ⟨gb401, 9, none⟩ = some (.int .i64 a0_9) := (blk_cell BK401.out 9).trans rfl
    have hc10_ : w'.cell? ⟨gb401, 10, none⟩ = some (.slice A0_10 l0_10.length c0_10) := (blk_cell BK401.out 10).trans rfl
    refine value_ (w1 := w') (v := .slice A0_10 l0_10.length c0_10) (by rfl) rfl ?_ ?_
    ·go_simp
     (try simp only [i64_w])
     try rfl
    refine hK.out _ _ ⟨v407, v411, (by rw [ha.out]; exact putSel_upk 1 hb_ rfl rfl rfl), Q_BK401, Q_BK402, Q_BK403, Q_BK404, Q_HB, Q_HO408, Q_HO412, fun h0_ => absurd ((hoff 24 (by kernel_rfl)).symm.trans h0_) (by decide)⟩
   refine steps_cons ?_ ?_
   ·rintro b a w' ⟨v407, v411, ha, Q_BK401, Q_BK402, Q_BK403, Q_BK404, Q_HB, Q_HO408, Q_HO412, Q_BK404_e24⟩ hb_ hon hoff
    refine ⟨_, rfl, fun K hK => ?_⟩
    have e29 : a.tmps[29]? = some (.slice A0_10 l0_10.length c0_10) := by rw [ha]; exact putSel_on (e := (3, 29, .slice A0_10 l0_10.length c0_10)) 1 rfl rfl (hon 3 (by kernel_rfl)) rfl
    replace ha := Aside0.mk ha
    have BK401 := Aside0.mk Q_BK401
    have BK402 := Aside0.mk Q_BK402
    have BK403 := Aside0.mk Q_BK403
    have BK404 := Aside0.mk (Q_BK404 (hoff 24 (by kernel_rfl)))
    have HB := Aside0.mk Q_HB
    refine value_ (w1 := w') (v := .int .i64 (l0_10.length : Int)) (by rfl) rfl ?_ ?_
    ·go_simp
     (try simp only [i64_w])
     try rfl
    refine hK.out _ _ ⟨v407, v411, (by rw [ha.out]; exact putSel_upk 2 hb_ rfl rfl rfl), Q_BK401, Q_BK402, Q_BK403, Q_BK404, Q_HB, Q_HO408, Q_HO412, fun h0_ => absurd ((hoff 24 (by kernel_rfl)).symm.trans h0_) (by decide)⟩
   refine steps_cons ?_ ?_
   ·rintro b a w' ⟨v407, v411, ha, Q_BK401, Q_BK402, Q_BK403, Q_BK404, Q_HB, Q_HO408, Q_HO412, Q_BK404_e24⟩ hb_ hon hoff
    refine ⟨_, rfl, fun K hK => ?_⟩
    have e31 : a.tmps[31]? = some (.int .i64 (wrap64 (a3_3 - 1))) := by rw [ha]; exact (putSel_off rfl).trans rfl
    replace ha := Aside0.mk ha
    have BK401 := Aside0.mk Q_BK401
    have BK402 := Aside0.mk Q_BK402
    have BK403 := Aside0.mk Q_BK403
    have BK404 := Aside0.mk (Q_BK404 (hoff 24 (by kernel_rfl)))
    have HB := Aside0.mk Q_HB
    refine Kd.R_lit_step (Kd.int .i64) _ 3 ?hg (N := 32) ?hd (xs := ([wrap64 (a3_3 - 1)] : List Int)) (inner := [.int .i64 (wrap64 (a3_3 - 1))]) (ok := fun _ => True) (okp := fun _ => True) ?hr ?hp (fun _ hk => hk) trivial (Below.refl _ _) (Nat.le_refl _) (by simp) ?_; (case hd => rfl); (case hg => rfl); (case hr => first | (go_simp; done) | (go_simp; rfl)); (case hp => exact (Reps.one (show Kd.M (Kd.int .i64) _ _ _ (wrap64 (a3_3 - 1)) [.int .i64 (wrap64 (a3_3 - 1))] from rfl) (Reps.none _ _)))
    intro v407 w25 ho26 hb hg_ hnew_
    clear hg_ hnew_
    (first | rw [← Ny406.out] at ho26 | (simp only [Int.reduceToNat] at ho26; rw [← Ny406.out] at ho26))
    have n0_ := Aside0.mk (Kd.R_lower ho26 (below_size HB.out))
    have n1_ := Aside0.mk (blk_below BK401.out hb)
    have n2_ := Aside0.mk (blk_below BK402.out hb)
    have n3_ := Aside0.mk (blk_below BK403.out hb)
    have n4_ := Aside0.mk (blk_below BK404.out hb)
    have n5_ := Aside0.mk (below_step HB.out hb)
    have z_HO412 := fun (h0_ : b 13 = true) => (show Kd.R (Kd.int .i64) 3 w25 w.heap.size (fun _ => True) v411 y410 from by first | exact (Kd.R_elder' (by (with_reducible repeat (first | apply Kd.R_alloc | apply Kd.R_drewN | apply Kd.R_drew)); exact (Q_HO412 h0_)) (Kd.R_base ho26) hb) | exact Kd.R_mono (Kd.R_elder' (by (with_reducible repeat (first | apply Kd.R_alloc | apply Kd.R_drewN | apply Kd.R_drew)); exact (Q_HO412 h0_)) (Kd.R_base ho26) hb) (fun _ h_ => by first | trivial | exact h_ | exact h_.1))
    clear BK401
    clear BK402
    clear BK403
    clear BK404
    clear HB
    have HO408 := n0_
    have BK401 := n1_
    have BK402 := n2_
    have BK403 := n3_
    have BK404 := n4_
    have HB := n5_
    clear n0_ n1_ n2_ n3_ n4_ n5_
    clear hb ho26
    refine hK.out _ _ ⟨v407, v411, (by rw [ha.out]; exact putSel_upk 3 hb_ rfl rfl rfl), (by (with_reducible repeat (first | refine blk_drewN ?_ _ | refine blk_drew ?_ | refine blk_alloc ?_ _)); exact BK401.out), (by (with_reducible repeat (first | refine blk_drewN ?_ _ | refine blk_drew ?_ | refine blk_alloc ?_ _)); exact BK402.out), (by (with_reducible repeat (first | refine blk_drewN ?_ _ | refine blk_drew ?_ | refine blk_alloc ?_ _)); exact BK403.out), fun _ => (by (with_reducible repeat (first | refine blk_drewN ?_ _ | refine blk_drew ?_ | refine blk_alloc ?_ _)); exact BK404.out), (by repeat (first | (with_reducible first | exact HB.out | apply below_alloc | apply pw_below_drewN | apply below_drew1 | refine below_set ?_ GE401.out | refine below_set ?_ GE402.out | refine below_set ?_ GE403.out | refine below_set ?_ GE404.out) | exact HB.out)), fun _ => (by (with_reducible repeat (first | apply Kd.R_alloc | apply Kd.R_drewN | apply Kd.R_drew)); exact HO408.out), z_HO412, fun h0_ => absurd ((hoff 24 (by kernel_rfl)).symm.trans h0_) (by decide)⟩
   refine steps_cons ?_ ?_
   ·rintro b a w' ⟨v407, v411, ha, Q_BK401, Q_BK402, Q_BK403, Q_BK404, Q_HB, Q_HO408, Q_HO412, Q_BK404_e24⟩ hb_ hon hoff
    refine ⟨_, rfl, fun K hK => ?_⟩
    have e27 : a.tmps[27]? = some (.string a1_11) := by rw [ha]; exact putSel_on (e := (1, 27, .string a1_11)) 0 rfl rfl (hon 1 (by kernel_rfl)) rfl
    have e30 : a.tmps[30]? = some (.int .i64 (l0_10.length : Int)) := by rw [ha]; exact putSel_on (e := (4, 30, .int .i64 (l0_10.length : Int))) 2 rfl rfl (hon 4 (by kernel_rfl)) rfl
    have e32 : a.tmps[32]? = some (v407) := by rw [ha]; exact putSel_on (e := (6, 32, v407)) 3 rfl rfl (hon 6 (by kernel_rfl)) rfl
    replace ha := Aside0.mk ha
    have BK401 := Aside0.mk Q_BK401
    have BK402 := Aside0.mk Q_BK402
    have BK403 := Aside0.mk Q_BK403
    have BK404 := Aside0.mk (Q_BK404 (hoff 24 (by kernel_rfl)))
    have HB := Aside0.mk Q_HB
    have HO408 := Aside0.mk (Q_HO408 (hon 6 (by kernel_rfl)))
    obtain ⟨Ao28, co28, eo28⟩ := Kd.R_slice HO408.out
    (first | subst eo28 | (injection eo28 with f1_ f2_ f3_; have f4_ := f1_.symm; have f5_ := f3_.symm; clear f1_ f2_ f3_; subst f4_; subst f5_))
    refine goes_ Try.func24 (by kernel_rfl) rfl #[.string a1_11, .int .i64 (l0_10.length : Int), .slice Ao28 y406.length co28] (by rfl) rfl rfl (by first | (simp only [List.map_toArray, List.map_cons, List.map_nil, Act.eval, Array.getD_eq_getD_getElem?, Option.getD_some, e27, e30, e32]; done) | (simp only [List.map_toArray, List.map_cons, List.map_nil, Act.eval, Array.getD_eq_getD_getElem?, Option.getD_some, e27, e30, e32]; rfl)) ?_
    with_reducible refine (r23_Mark.calls k a1_11 (l0_10.length : Int) _ _ y406 t409 _ ?side1 ?side2 A7.out).mono ?_
    (case side1 => exact (Kd.R_reads' HO408.out).2.2)
    (case side2 => exact (Kd.R_reads' HO408.out).2.1)
    rintro e w29 ⟨rfl, hb⟩
    refine ⟨_, rfl, ?_⟩
    have n0_ := Aside0.mk (Kd.R_below HO408.out hb)
    have n1_ := Aside0.mk (blk_below BK401.out hb)
    have n2_ := Aside0.mk (blk_below BK402.out hb)
    have n3_ := Aside0.mk (blk_below BK403.out hb)
    have n4_ := Aside0.mk (blk_below BK404.out hb)
    have n5_ := Aside0.mk (below_step HB.out hb)
    have z_HO412 := fun (h0_ : b 13 = true) => (show Kd.R (Kd.int .i64) 3 w29 w.heap.size (fun _ => True) v411 y410 from by first | exact (Kd.R_below (by (with_reducible repeat (first | apply Kd.R_alloc | apply Kd.R_drewN | apply Kd.R_drew)); exact (Q_HO412 h0_)) hb) | exact Kd.R_mono (Kd.R_below (by (with_reducible repeat (first | apply Kd.R_alloc | apply Kd.R_drewN | apply Kd.R_drew)); exact (Q_HO412 h0_)) hb) (fun _ h_ => by first | trivial | exact h_ | exact h_.1))
    clear HO408
    clear BK401
    clear BK402
    clear BK403
    clear BK404
    clear HB
    have HO408 := n0_
    have BK401 := n1_
    have BK402 := n2_
    have BK403 := n3_
    have BK404 := n4_
    have HB := n5_
    clear n0_ n1_ n2_ n3_ n4_ n5_
    (try clear hb)
    (try clear hb2)
    (try clear hk)
    (try clear hi)
    refine hK.out _ _ ⟨.slice Ao28 y406.length co28, v411, (by rw [ha.out]; exact putSel_upk 4 hb_ rfl rfl rfl), (by (with_reducible repeat (first | refine blk_drewN ?_ _ | refine blk_drew ?_ | refine blk_alloc ?_ _)); exact BK401.out), (by (with_reducible repeat (first | refine blk_drewN ?_ _ | refine blk_drew ?_ | refine blk_alloc ?_ _)); exact BK402.out), (by (with_reducible repeat (first | refine blk_drewN ?_ _ | refine blk_drew ?_ | refine blk_alloc ?_ _)); exact BK403.out), fun _ => (by (with_reducible repeat (first | refine blk_drewN ?_ _ | refine blk_drew ?_ | refine blk_alloc ?_ _)); exact BK404.out), (by repeat (first | (with_reducible first | exact HB.out | apply below_alloc | apply pw_below_drewN | apply below_drew1 | refine below_set ?_ GE401.out | refine below_set ?_ GE402.out | refine below_set ?_ GE403.out | refine below_set ?_ GE404.out) | exact HB.out)), fun _ => (by (with_reducible repeat (first | apply Kd.R_alloc | apply Kd.R_drewN | apply Kd.R_drew)); exact HO408.out), z_HO412, fun h0_ => absurd ((hoff 24 (by kernel_rfl)).symm.trans h0_) (by decide)⟩
   refine steps_cons ?_ ?_
   ·rintro b a w' ⟨v407, v411, ha, Q_BK401, Q_BK402, Q_BK403, Q_BK404, Q_HB, Q_HO408, Q_HO412, Q_BK404_e24⟩ hb_ hon hoff
    refine ⟨_, rfl, fun K hK => ?_⟩
    have e34 : a.tmps[34]? = some (.pointer (some ⟨gb402, 10, none⟩)) := by rw [ha]; exact (putSel_off rfl).trans rfl
    replace ha := Aside0.mk ha
    have BK401 := Aside0.mk Q_BK401
    have BK402 := Aside0.mk Q_BK402
    have BK403 := Aside0.mk Q_BK403
    have BK404 := Aside0.mk (Q_BK404 (hoff 24 (by kernel_rfl)))
    have HB := Aside0.mk Q_HB
    have hc0_ : w'.cell? ⟨gb402, 0, none⟩ = some (.int .i64 a1_0) := (blk_cell BK402.out 0).trans rfl
    have hc1_ : w'.cell? ⟨gb402, 1, none⟩ = some (.int .i64 a1_1) := (blk_cell BK402.out 1).trans rfl
    have hc2_ : w'.cell? ⟨gb402, 2, none⟩ = some (.int .i64 a1_2) := (blk_cell BK402.out 2).trans rfl
    have hc3_ : w'.cell? ⟨gb402, 3, none⟩ = some (.string a1_3) := (blk_cell BK402.out 3).trans rfl
    have hc4_ : w'.cell? ⟨gb402, 4, none⟩ = some (.int .i64 a1_4) := (blk_cell BK402.out 4).trans rfl
    have hc5_ : w'.cell? ⟨gb402, 5, none⟩ = some (.string a1_5) := (blk_cell BK402.out 5).trans rfl
    have hc6_ : w'.cell? ⟨gb402, 6, none⟩ = some (.string a1_6) := (blk_cell BK402.out 6).trans rfl
    have hc7_ : w'.cell? ⟨gb402, 7, none⟩ = some (.int .i64 a1_7) := (blk_cell BK402.out 7).trans rfl
    have hc8_ : w'.cell? ⟨gb402, 8, none⟩ = some (.int .i64 a1_8) := (blk_cell BK402.out 8).trans rfl
    have hc9_ : w'.cell? ⟨gb402, 9, none⟩ = some (.string a1_9) := (blk_cell BK402.out 9).trans rfl
    have hc10_ : w'.cell? ⟨gb402, 10, none⟩ = some (.string a1_10) := (blk_cell BK402.out 10).trans rfl
    have hc11_ : w'.cell? ⟨gb402, 11, none⟩ = some (.string a1_11) := (blk_cell BK402.out 11).trans rfl
    have hc12_ : w'.cell? ⟨gb402, 12, none⟩ = some (.string a1_12) := (blk_cell BK402.out 12).trans rfl
    have hc13_ : w'.cell? ⟨gb402, 13, none⟩ = some (.string a1_13) := (blk_cell BK402.out 13).trans rfl
    have hc14_ : w'.cell? ⟨gb402, 14, none⟩ = some (.string a1_14) := (blk_cell BK402.out 14).trans rfl
    have hc15_ : w'.cell? ⟨gb402, 15, none⟩ = some (.slice A1_15 l1_15.length c1_15) := (blk_cell BK402.out 15).trans rfl
    have hc16_ : w'.cell? ⟨gb402, 16, none⟩ = some (.slice A1_16 l1_16.length c1_16) := (blk_cell BK402.out 16).trans rfl
    have hc17_ : w'.cell? ⟨gb402, 17, none⟩ = some (.slice A1_17 l1_17.length c1_17) := (blk_cell BK402.out 17).trans rfl
    have hc18_ : w'.cell? ⟨gb402, 18, none⟩ = some (.int .i64 a1_18) := (blk_cell BK402.out 18).trans rfl
    have hc19_ : w'.cell? ⟨gb402, 19, none⟩ = some (.int .i64 a1_19) := (blk_cell BK402.out 19).trans rfl
    have hc20_ : w'.cell? ⟨gb402, 20, none⟩ = some (.int .i64 a1_20) := (blk_cell BK402.out 20).trans rfl
    have hc21_ : w'.cell? ⟨gb402, 21, none⟩ = some (.int .i64 a1_21) := (blk_cell BK402.out 21).trans rfl
    have hc22_ : w'.cell? ⟨gb402, 22, none⟩ = some (.int .i64 a1_22) := (blk_cell BK402.out 22).trans rfl
    have hc23_ : w'.cell? ⟨gb402, 23, none⟩ = some (.int .i64 a1_23) := (blk_cell BK402.out 23).trans rfl
    refine value_ (w1 := w') (v := .string a1_10) (by rfl) rfl ?_ ?_
    ·go_simp
     (try simp only [i64_w])
     try rfl
    refine hK.out _ _ ⟨v407, v411, (by rw [ha.out]; exact putSel_upk 5 hb_ rfl rfl rfl), Q_BK401, Q_BK402, Q_BK403, Q_BK404, Q_HB, Q_HO408, Q_HO412, fun h0_ => absurd ((hoff 24 (by kernel_rfl)).symm.trans h0_) (by decide)⟩
   refine steps_cons ?_ ?_
   ·rintro b a w' ⟨v407, v411, ha, Q_BK401, Q_BK402, Q_BK403, Q_BK404, Q_HB, Q_HO408, Q_HO412, Q_BK404_e24⟩ hb_ hon hoff
    refine ⟨_, rfl, fun K hK => ?_⟩
    have e36 : a.tmps[36]? = some (.pointer (some ⟨gb401, 0, none⟩)) := by rw [ha]; exact (putSel_off rfl).trans rfl
    replace ha := Aside0.mk ha
    have BK401 := Aside0.mk Q_BK401
    have BK402 := Aside0.mk Q_BK402
    have BK403 := Aside0.mk Q_BK403
    have BK404 := Aside0.mk (Q_BK404 (hoff 24 (by kernel_rfl)))
    have HB := Aside0.mk Q_HB
    have hc0_ : w'.cell? ⟨gb401, 0, none⟩ = some (.int .i64 a0_0) := (blk_cell BK401.out 0).trans rfl
    have hc1_ : w'.cell? ⟨gb401, 1, none⟩ = some (.int .i64 a0_1) := (blk_cell BK401.out 1).trans rfl
    have hc2_ : w'.cell? ⟨gb401, 2, none⟩ = some (.int .i64 a0_2) := (blk_cell BK401.out 2).trans rfl
    have hc3_ : w'.cell? ⟨gb401, 3, none⟩ = some (.int .i64 a0_3) := (blk_cell BK401.out 3).trans rfl
    have hc4_ : w'.cell? ⟨gb401, 4, none⟩ = some (.int .i64 a0_4) := (blk_cell BK401.out 4).trans rfl
    have hc5_ : w'.cell? ⟨gb401, 5, none⟩ = some (.int .i64 a0_5) := (blk_cell BK401.out 5).trans rfl
    have hc6_ : w'.cell? ⟨gb401, 6, none⟩ = some (.int .i64 a0_6) := (blk_cell BK401.out 6).trans rfl
    have hc7_ : w'.cell? ⟨gb401, 7, none⟩ = some (.int .i64 a0_7) := (blk_cell BK401.out 7).trans rfl
    have hc8_ : w'.cell? ⟨gb401, 8, none⟩ = some (.int .i64 a0_8) := (blk_cell BK401.out 8).trans rfl
    have hc9_ : w'.cell? ⟨gb401, 9, none⟩ = some (.int .i64 a0_9) := (blk_cell BK401.out 9).trans rfl
    have hc10_ : w'.cell? ⟨gb401, 10, none⟩ = some (.slice A0_10 l0_10.length c0_10) := (blk_cell BK401.out 10).trans rfl
    refine value_ (w1 := w') (v := .int .i64 a0_0) (by rfl) rfl ?_ ?_
    ·go_simp
     (try simp only [i64_w])
     try rfl
    refine hK.out _ _ ⟨v407, v411, (by rw [ha.out]; exact putSel_upk 6 hb_ rfl rfl rfl), Q_BK401, Q_BK402, Q_BK403, Q_BK404, Q_HB, Q_HO408, Q_HO412, fun h0_ => absurd ((hoff 24 (by kernel_rfl)).symm.trans h0_) (by decide)⟩
   refine steps_cons ?_ ?_
   ·rintro b a w' ⟨v407, v411, ha, Q_BK401, Q_BK402, Q_BK403, Q_BK404, Q_HB, Q_HO408, Q_HO412, Q_BK404_e24⟩ hb_ hon hoff
    refine ⟨_, rfl, fun K hK => ?_⟩
    have e38 : a.tmps[38]? = some (.int .i64 a2) := by rw [ha]; exact (putSel_off rfl).trans rfl
    replace ha := Aside0.mk ha
    have BK401 := Aside0.mk Q_BK401
    have BK402 := Aside0.mk Q_BK402
    have BK403 := Aside0.mk Q_BK403
    have BK404 := Aside0.mk (Q_BK404 (hoff 24 (by kernel_rfl)))
    have HB := Aside0.mk Q_HB
    refine Kd.R_lit_step (Kd.int .i64) _ 3 ?hg (N := 39) ?hd (xs := ([a2] : List Int)) (inner := [.int .i64 a2]) (ok := fun _ => True) (okp := fun _ => True) ?hr ?hp (fun _ hk => hk) trivial (Below.refl _ _) (Nat.le_refl _) (by simp) ?_; (case hd => rfl); (case hg => rfl); (case hr => first | (go_simp; done) | (go_simp; rfl)); (case hp => exact (Reps.one (show Kd.M (Kd.int .i64) _ _ _ a2 [.int .i64 a2] from rfl) (Reps.none _ _)))
    intro v411 w25 ho26 hb hg_ hnew_
    clear hg_ hnew_
    (first | rw [← Ny410.out] at ho26 | (simp only [Int.reduceToNat] at ho26; rw [← Ny410.out] at ho26))
    have n0_ := Aside0.mk (Kd.R_lower ho26 (below_size HB.out))
    have n1_ := Aside0.mk (blk_below BK401.out hb)
    have n2_ := Aside0.mk (blk_below BK402.out hb)
    have n3_ := Aside0.mk (blk_below BK403.out hb)
    have n4_ := Aside0.mk (blk_below BK404.out hb)
    have n5_ := Aside0.mk (below_step HB.out hb)
    have z_HO408 := fun (h0_ : b 6 = true) => (show Kd.R (Kd.int .i64) 3 w25 w.heap.size (fun _ => True) v407 y406 from by first | exact (Kd.R_elder' (by (with_reducible repeat (first | apply Kd.R_alloc | apply Kd.R_drewN | apply Kd.R_drew)); exact (Q_HO408 h0_)) (Kd.R_base ho26) hb) | exact Kd.R_mono (Kd.R_elder' (by (with_reducible repeat (first | apply Kd.R_alloc | apply Kd.R_drewN | apply Kd.R_drew)); exact (Q_HO408 h0_)) (Kd.R_base ho26) hb) (fun _ h_ => by first | trivial | exact h_ | exact h_.1))
    clear BK401
    clear BK402
    clear BK403
    clear BK404
    clear HB
    have HO412 := n0_
    have BK401 := n1_
    have BK402 := n2_
    have BK403 := n3_
    have BK404 := n4_
    have HB := n5_
    clear n0_ n1_ n2_ n3_ n4_ n5_
    clear hb ho26
    refine hK.out _ _ ⟨v407, v411, (by rw [ha.out]; exact putSel_upk 7 hb_ rfl rfl rfl), (by (with_reducible repeat (first | refine blk_drewN ?_ _ | refine blk_drew ?_ | refine blk_alloc ?_ _)); exact BK401.out), (by (with_reducible repeat (first | refine blk_drewN ?_ _ | refine blk_drew ?_ | refine blk_alloc ?_ _)); exact BK402.out), (by (with_reducible repeat (first | refine blk_drewN ?_ _ | refine blk_drew ?_ | refine blk_alloc ?_ _)); exact BK403.out), fun _ => (by (with_reducible repeat (first | refine blk_drewN ?_ _ | refine blk_drew ?_ | refine blk_alloc ?_ _)); exact BK404.out), (by repeat (first | (with_reducible first | exact HB.out | apply below_alloc | apply pw_below_drewN | apply below_drew1 | refine below_set ?_ GE401.out | refine below_set ?_ GE402.out | refine below_set ?_ GE403.out | refine below_set ?_ GE404.out) | exact HB.out)), z_HO408, fun _ => (by (with_reducible repeat (first | apply Kd.R_alloc | apply Kd.R_drewN | apply Kd.R_drew)); exact HO412.out), fun h0_ => absurd ((hoff 24 (by kernel_rfl)).symm.trans h0_) (by decide)⟩
   refine steps_cons ?_ ?_
   ·rintro b a w' ⟨v407, v411, ha, Q_BK401, Q_BK402, Q_BK403, Q_BK404, Q_HB, Q_HO408, Q_HO412, Q_BK404_e24⟩ hb_ hon hoff
    refine ⟨_, rfl, fun K hK => ?_⟩
    have e35 : a.tmps[35]? = some (.string a1_10) := by rw [ha]; exact putSel_on (e := (9, 35, .string a1_10)) 5 rfl rfl (hon 9 (by kernel_rfl)) rfl
    have e37 : a.tmps[37]? = some (.int .i64 a0_0) := by rw [ha]; exact putSel_on (e := (11, 37, .int .i64 a0_0)) 6 rfl rfl (hon 11 (by kernel_rfl)) rfl
    have e39 : a.tmps[39]? = some (v411) := by rw [ha]; exact putSel_on (e := (13, 39, v411)) 7 rfl rfl (hon 13 (by kernel_rfl)) rfl
    replace ha := Aside0.mk ha
    have BK401 := Aside0.mk Q_BK401
    have BK402 := Aside0.mk Q_BK402
    have BK403 := Aside0.mk Q_BK403
    have BK404 := Aside0.mk (Q_BK404 (hoff 24 (by kernel_rfl)))
    have HB := Aside0.mk Q_HB
    have HO408 := Aside0.mk (Q_HO408 (hon 6 (by kernel_rfl)))
    have HO412 := Aside0.mk (Q_HO412 (hon 13 (by kernel_rfl)))
    obtain ⟨Ao32, co32, eo32⟩ := Kd.R_slice HO412.out
    (first | subst eo32 | (injection eo32 with f1_ f2_ f3_; have f4_ := f1_.symm; have f5_ := f3_.symm; clear f1_ f2_ f3_; subst f4_; subst f5_))
    refine goes_ Try.func24 (by kernel_rfl) rfl #[.string a1_10, .int .i64 a0_0, .slice Ao32 y410.length co32] (by rfl) rfl rfl (by first | (simp only [List.map_toArray, List.map_cons, List.map_nil, Act.eval, Array.getD_eq_getD_getElem?, Option.getD_some, e35, e37, e39]; done) | (simp only [List.map_toArray, List.map_cons, List.map_nil, Act.eval, Array.getD_eq_getD_getElem?, Option.getD_some, e35, e37, e39]; rfl)) ?_
    with_reducible refine (r23_Mark.calls k a1_10 a0_0 _ _ y410 t413 _ ?side1 ?side2 A8.out).mono ?_
    (case side1 => exact (Kd.R_reads' HO412.out).2.2)
    (case side2 => exact (Kd.R_reads' HO412.out).2.1)
    rintro e w33 ⟨rfl, hb⟩
    refine ⟨_, rfl, ?_⟩
    replace HO408 := Aside0.mk (Kd.R_below HO408.out hb)
    replace HO412 := Aside0.mk (Kd.R_below HO412.out hb)
    replace BK401 := Aside0.mk (blk_below BK401.out hb)
    replace BK402 := Aside0.mk (blk_below BK402.out hb)
    replace BK403 := Aside0.mk (blk_below BK403.out hb)
    replace BK404 := Aside0.mk (blk_below BK404.out hb)
    replace HB := Aside0.mk (below_step HB.out hb)
    (try clear hb)
    (try clear hb2)
    (try clear hk)
    (try clear hi)
    refine hK.out _ _ ⟨v407, .slice Ao32 y410.length co32, (by rw [ha.out]; exact putSel_upk 8 hb_ rfl rfl rfl), (by (with_reducible repeat (first | refine blk_drewN ?_ _ | refine blk_drew ?_ | refine blk_alloc ?_ _)); exact BK401.out), (by (with_reducible repeat (first | refine blk_drewN ?_ _ | refine blk_drew ?_ | refine blk_alloc ?_ _)); exact BK402.out), (by (with_reducible repeat (first | refine blk_drewN ?_ _ | refine blk_drew ?_ | refine blk_alloc ?_ _)); exact BK403.out), fun _ => (by (with_reducible repeat (first | refine blk_drewN ?_ _ | refine blk_drew ?_ | refine blk_alloc ?_ _)); exact BK404.out), (by repeat (first | (with_reducible first | exact HB.out | apply below_alloc | apply pw_below_drewN | apply below_drew1 | refine below_set ?_ GE401.out | refine below_set ?_ GE402.out | refine below_set ?_ GE403.out | refine below_set ?_ GE404.out) | exact HB.out)), fun _ => (by (with_reducible repeat (first | apply Kd.R_alloc | apply Kd.R_drewN | apply Kd.R_drew)); exact HO408.out), fun _ => (by (with_reducible repeat (first | apply Kd.R_alloc | apply Kd.R_drewN | apply Kd.R_drew)); exact HO412.out), fun h0_ => absurd ((hoff 24 (by kernel_rfl)).symm.trans h0_) (by decide)⟩
   refine steps_cons ?_ ?_
   ·rintro b a w' ⟨v407, v411, ha, Q_BK401, Q_BK402, Q_BK403, Q_BK404, Q_HB, Q_HO408, Q_HO412, Q_BK404_e24⟩ hb_ hon hoff
    refine ⟨_, rfl, fun K hK => ?_⟩
    have e43 : a.tmps[43]? = some (.pointer (some ⟨gb403, 4, none⟩)) := by rw [ha]; exact (putSel_off rfl).trans rfl
    replace ha := Aside0.mk ha
    have BK401 := Aside0.mk Q_BK401
    have BK402 := Aside0.mk Q_BK402
    have BK403 := Aside0.mk Q_BK403
    have BK404 := Aside0.mk (Q_BK404 (hoff 24 (by kernel_rfl)))
    have HB := Aside0.mk Q_HB
    have hc0_ : w'.cell? ⟨gb403, 0, none⟩ = some (.string a3_0) := (blk_cell BK403.out 0).trans rfl
    have hc1_ : w'.cell? ⟨gb403, 1, none⟩ = some (.int .i64 a3_1) := (blk_cell BK403.out 1).trans rfl
    have hc2_ : w'.cell? ⟨gb403, 2, none⟩ = some (.string a3_2) := (blk_cell BK403.out 2).trans rfl
    have hc3_ : w'.cell? ⟨gb403, 3, none⟩ = some (.int .i64 a3_3) := (blk_cell BK403.out 3).trans rfl
    have hc4_ : w'.cell? ⟨gb403, 4, none⟩ = some (.int .i64 a3_4) := (blk_cell BK403.out 4).trans rfl
    have hc5_ : w'.cell? ⟨gb403, 5, none⟩ = some (.string a3_5) := (blk_cell BK403.out 5).trans rfl
    refine value_ (w1 := w') (v := .int .i64 a3_4) (by rfl) rfl ?_ ?_
    ·go_simp
     (try simp only [i64_w])
     try rfl
    refine hK.out _ _ ⟨v407, v411, (by rw [ha.out]; exact putSel_upk 9 hb_ rfl rfl rfl), Q_BK401, Q_BK402, Q_BK403, Q_BK404, Q_HB, Q_HO408, Q_HO412, fun h0_ => absurd ((hoff 24 (by kernel_rfl)).symm.trans h0_) (by decide)⟩
   refine steps_cons ?_ ?_
   ·rintro b a w' ⟨v407, v411, ha, Q_BK401, Q_BK402, Q_BK403, Q_BK404, Q_HB, Q_HO408, Q_HO412, Q_BK404_e24⟩ hb_ hon hoff
    refine ⟨_, rfl, fun K hK => ?_⟩
    have e45 : a.tmps[45]? = some (.pointer (some ⟨gb403, 5, none⟩)) := by rw [ha]; exact (putSel_off rfl).trans rfl
    replace ha := Aside0.mk ha
    have BK401 := Aside0.mk Q_BK401
    have BK402 := Aside0.mk Q_BK402
    have BK403 := Aside0.mk Q_BK403
    have BK404 := Aside0.mk (Q_BK404 (hoff 24 (by kernel_rfl)))
    have HB := Aside0.mk Q_HB
    have hc0_ : w'.cell? ⟨gb403, 0, none⟩ = some (.string a3_0) := (blk_cell BK403.out 0).trans rfl
    have hc1_ : w'.cell? ⟨gb403, 1, none⟩ = some (.int .i64 a3_1) := (blk_cell BK403.out 1).trans rfl
    have hc2_ : w'.cell? ⟨gb403, 2, none⟩ = some (.string a3_2) := (blk_cell BK403.out 2).trans rfl
    have hc3_ : w'.cell? ⟨gb403, 3, none⟩ = some (.int .i64 a3_3) := (blk_cell BK403.out 3).trans rfl
    have hc4_ : w'.cell? ⟨gb403, 4, none⟩ = some (.int .i64 a3_4) := (blk_cell BK403.out 4).trans rfl
    have hc5_ : w'.cell? ⟨gb403, 5, none⟩ = some (.string a3_5) := (blk_cell BK403.out 5).trans rfl
    refine value_ (w1 := w') (v := .string a3_5) (by rfl) rfl ?_ ?_
    ·go_simp
     (try simp only [i64_w])
     try rfl
    refine hK.out _ _ ⟨v407, v411, (by rw [ha.out]; exact putSel_upk 10 hb_ rfl rfl rfl), Q_BK401, Q_BK402, Q_BK403, Q_BK404, Q_HB, Q_HO408, Q_HO412, fun h0_ => absurd ((hoff 24 (by kernel_rfl)).symm.trans h0_) (by decide)⟩
   refine steps_cons ?_ ?_
   ·rintro b a w' ⟨v407, v411, ha, Q_BK401, Q_BK402, Q_BK403, Q_BK404, Q_HB, Q_HO408, Q_HO412, Q_BK404_e24⟩ hb_ hon hoff
    refine ⟨_, rfl, fun K hK => ?_⟩
    have e41 : a.tmps[41]? = some (.int .i64 a2) := by rw [ha]; exact (putSel_off rfl).trans rfl
    have e42 : a.tmps[42]? = some (.int .i64 (wrap64 (a3_3 - 1))) := by rw [ha]; exact (putSel_off rfl).trans rfl
    have e44 : a.tmps[44]? = some (.int .i64 a3_4) := by rw [ha]; exact putSel_on (e := (18, 44, .int .i64 a3_4)) 9 rfl rfl (hon 18 (by kernel_rfl)) rfl
    have e46 : a.tmps[46]? = some (.string a3_5) := by rw [ha]; exact putSel_on (e := (20, 46, .string a3_5)) 10 rfl rfl (hon 20 (by kernel_rfl)) rfl
    replace ha := Aside0.mk ha
    have BK401 := Aside0.mk Q_BK401
    have BK402 := Aside0.mk Q_BK402
    have BK403 := Aside0.mk Q_BK403
    have BK404 := Aside0.mk (Q_BK404 (hoff 24 (by kernel_rfl)))
    have HB := Aside0.mk Q_HB
    refine value_ (w1 := w') (v := .agg #[.int .i64 a2, .int .i64 (wrap64 (a3_3 - 1)), .int .i64 a3_4, .string a3_5]) (by rfl) rfl ?_ ?_
    ·go_simp
     (try simp only [i64_w])
     try rfl
    refine hK.out _ _ ⟨v407, v411, (by rw [ha.out]; exact putSel_upk 11 hb_ rfl rfl rfl), Q_BK401, Q_BK402, Q_BK403, Q_BK404, Q_HB, Q_HO408, Q_HO412, fun h0_ => absurd ((hoff 24 (by kernel_rfl)).symm.trans h0_) (by decide)⟩
   refine steps_cons ?_ ?_
   ·rintro b a w' ⟨v407, v411, ha, Q_BK401, Q_BK402, Q_BK403, Q_BK404, Q_HB, Q_HO408, Q_HO412, Q_BK404_e24⟩ hb_ hon hoff
    refine ⟨_, rfl, fun K hK => ?_⟩
    have e33 : a.tmps[33]? = some (.string t409) := by rw [ha]; exact putSel_on (e := (7, 33, .string t409)) 4 rfl rfl (hon 7 (by kernel_rfl)) rfl
    replace ha := Aside0.mk ha
    have BK401 := Aside0.mk Q_BK401
    have BK402 := Aside0.mk Q_BK402
    have BK403 := Aside0.mk Q_BK403
    have BK404 := Aside0.mk (Q_BK404 (hoff 24 (by kernel_rfl)))
    have HB := Aside0.mk Q_HB
    have HO408 := Aside0.mk (Q_HO408 (hon 6 (by kernel_rfl)))
    have HO412 := Aside0.mk (Q_HO412 (hon 13 (by kernel_rfl)))
    refine value_ (w1 := w') (v := .string t409) (by rfl) rfl ?_ ?_
    ·go_simp
     (try simp only [i64_w])
     try rfl
    refine hK.out _ _ ⟨v407, v411, (by rw [ha.out]; exact putSel_upk 12 hb_ rfl rfl rfl), Q_BK401, Q_BK402, Q_BK403, Q_BK404, Q_HB, Q_HO408, Q_HO412, fun h0_ => absurd ((hoff 24 (by kernel_rfl)).symm.trans h0_) (by decide)⟩
   refine steps_cons ?_ ?_
   ·rintro b a w' ⟨v407, v411, ha, Q_BK401, Q_BK402, Q_BK403, Q_BK404, Q_HB, Q_HO408, Q_HO412, Q_BK404_e24⟩ hb_ hon hoff
    refine ⟨_, rfl, fun K hK => ?_⟩
    have e40 : a.tmps[40]? = some (.string t413) := by rw [ha]; exact putSel_on (e := (14, 40, .string t413)) 8 rfl rfl (hon 14 (by kernel_rfl)) rfl
    replace ha := Aside0.mk ha
    have BK401 := Aside0.mk Q_BK401
    have BK402 := Aside0.mk Q_BK402
    have BK403 := Aside0.mk Q_BK403
    have BK404 := Aside0.mk (Q_BK404 (hoff 24 (by kernel_rfl)))
    have HB := Aside0.mk Q_HB
    have HO408 := Aside0.mk (Q_HO408 (hon 6 (by kernel_rfl)))
    have HO412 := Aside0.mk (Q_HO412 (hon 13 (by kernel_rfl)))
    refine value_ (w1 := w') (v := .string t413) (by rfl) rfl ?_ ?_
    ·go_simp
     (try simp only [i64_w])
     try rfl
    refine hK.out _ _ ⟨v407, v411, (by rw [ha.out]; exact putSel_upk 13 hb_ rfl rfl rfl), Q_BK401, Q_BK402, Q_BK403, Q_BK404, Q_HB, Q_HO408, Q_HO412, fun h0_ => absurd ((hoff 24 (by kernel_rfl)).symm.trans h0_) (by decide)⟩
   refine steps_cons ?_ ?_
   ·rintro b a w' ⟨v407, v411, ha, Q_BK401, Q_BK402, Q_BK403, Q_BK404, Q_HB, Q_HO408, Q_HO412, Q_BK404_e24⟩ hb_ hon hoff
    refine ⟨_, rfl, fun K hK => ?_⟩
    have e10 : a.tmps[10]? = some (.pointer (some ⟨gb404, 0, none⟩)) := by rw [ha]; exact (putSel_off rfl).trans rfl
    have e47 : a.tmps[47]? = some (.agg #[.int .i64 a2, .int .i64 (wrap64 (a3_3 - 1)), .int .i64 a3_4, .string a3_5]) := by rw [ha]; exact putSel_on (e := (21, 47, .agg #[.int .i64 a2, .int .i64 (wrap64 (a3_3 - 1)), .int .i64 a3_4, .string a3_5])) 11 rfl rfl (hon 21 (by kernel_rfl)) rfl
    replace ha := Aside0.mk ha
    have BK401 := Aside0.mk Q_BK401
    have BK402 := Aside0.mk Q_BK402
    have BK403 := Aside0.mk Q_BK403
    have BK404 := Aside0.mk (Q_BK404 hb_)
    have HB := Aside0.mk Q_HB
    have HO408 := Aside0.mk (Q_HO408 (hon 6 (by kernel_rfl)))
    have HO412 := Aside0.mk (Q_HO412 (hon 13 (by kernel_rfl)))
    have hs34 : w'.cell? ⟨gb404, 0, none⟩ = some (.int .i64 0) := (blk_cell BK404.out 0).trans rfl
    have hfs34 := blk_frozen BK404.out 0
    have hns34_0 := NB401_404.out
    have hns34_1 := NB402_404.out
    have hns34_2 := NB403_404.out
    have hms34_0 := NB404_401.out
    have hms34_1 := NB404_402.out
    have hms34_2 := NB404_403.out
    have hs35 : w'.cell? ⟨gb404, 1, none⟩ = some (.int .i64 0) := (blk_cell BK404.out 1).trans rfl
    have hfs35 := blk_frozen BK404.out 1
    have hns35_0 := NB401_404.out
    have hns35_1 := NB402_404.out
    have hns35_2 := NB403_404.out
    have hms35_0 := NB404_401.out
    have hms35_1 := NB404_402.out
    have hms35_2 := NB404_403.out
    have hs36 : w'.cell? ⟨gb404, 2, none⟩ = some (.int .i64 0) := (blk_cell BK404.out 2).trans rfl
    have hfs36 := blk_frozen BK404.out 2
    have hns36_0 := NB401_404.out
    have hns36_1 := NB402_404.out
    have hns36_2 := NB403_404.out
    have hms36_0 := NB404_401.out
    have hms36_1 := NB404_402.out
    have hms36_2 := NB404_403.out
    have hs37 : w'.cell? ⟨gb404, 3, none⟩ = some (.string (⟨#[]⟩ : ByteArray)) := (blk_cell BK404.out 3).trans rfl
    have hfs37 := blk_frozen BK404.out 3
    have hns37_0 := NB401_404.out
    have hns37_1 := NB402_404.out
    have hns37_2 := NB403_404.out
    have hms37_0 := NB404_401.out
    have hms37_1 := NB404_402.out
    have hms37_2 := NB404_403.out
    refine skip_ (w1 := ?_) (by rfl) rfl ?_ ?_
    rotate_left
    ·go_simp
     rfl
    refine hK.out _ _ ⟨v407, v411, (by rw [ha.out]; exact putSel_none (v := undef) rfl), (by (iterate 4 ((with_reducible repeat (first | refine blk_drewN ?_ _ | refine blk_drew ?_ | refine blk_alloc ?_ _)); refine blk_far ?_ NB401_404.out _)); (with_reducible repeat (first | refine blk_drewN ?_ _ | refine blk_drew ?_ | refine blk_alloc ?_ _)); exact BK401.out), (by (iterate 4 ((with_reducible repeat (first | refine blk_drewN ?_ _ | refine blk_drew ?_ | refine blk_alloc ?_ _)); refine blk_far ?_ NB402_404.out _)); (with_reducible repeat (first | refine blk_drewN ?_ _ | refine blk_drew ?_ | refine blk_alloc ?_ _)); exact BK402.out), (by (iterate 4 ((with_reducible repeat (first | refine blk_drewN ?_ _ | refine blk_drew ?_ | refine blk_alloc ?_ _)); refine blk_far ?_ NB403_404.out _)); (with_reducible repeat (first | refine blk_drewN ?_ _ | refine blk_drew ?_ | refine blk_alloc ?_ _)); exact BK403.out), fun h0_ => absurd ((up_self b 24).symm.trans h0_) (by decide), (by repeat (first | (with_reducible first | exact HB.out | apply below_alloc | apply pw_below_drewN | apply below_drew1 | refine below_set ?_ GE401.out | refine below_set ?_ GE402.out | refine below_set ?_ GE403.out | refine below_set ?_ GE404.out) | exact HB.out)), fun _ => (by (with_reducible repeat (first | apply Kd.R_alloc | apply Kd.R_drewN | apply Kd.R_drew)); exact Kd.R_mono (Kd.R_far (p := ⟨gb404, 3, none⟩) (Kd.R_far (p := ⟨gb404, 2, none⟩) (Kd.R_far (p := ⟨gb404, 1, none⟩) (Kd.R_far (p := ⟨gb404, 0, none⟩) (Kd.R_types HO408.out BK404.out (by decide)) (fun _ hk => hk.2) (.int .i64 a2)) (fun _ hk => hk.2) (.int .i64 (wrap64 (a3_3 - 1)))) (fun _ hk => hk.2) (.int .i64 a3_4)) (fun _ hk => hk.2) (.string a3_5)) (fun _ hk => hk.1)), fun _ => (by (with_reducible repeat (first | apply Kd.R_alloc | apply Kd.R_drewN | apply Kd.R_drew)); exact Kd.R_mono (Kd.R_far (p := ⟨gb404, 3, none⟩) (Kd.R_far (p := ⟨gb404, 2, none⟩) (Kd.R_far (p := ⟨gb404, 1, none⟩) (Kd.R_far (p := ⟨gb404, 0, none⟩) (Kd.R_types HO412.out BK404.out (by decide)) (fun _ hk => hk.2) (.int .i64 a2)) (fun _ hk => hk.2) (.int .i64 (wrap64 (a3_3 - 1)))) (fun _ hk => hk.2) (.int .i64 a3_4)) (fun _ hk => hk.2) (.string a3_5)) (fun _ hk => hk.1)), fun _ => (by (with_reducible repeat (first | refine blk_drewN ?_ _ | refine blk_drew ?_ | refine blk_alloc ?_ _)); refine blk_put (cs := #[.int .i64 a2, .int .i64 (wrap64 (a3_3 - 1)), .int .i64 a3_4, .string (⟨#[]⟩ : ByteArray)]) ?_ 3 _ rfl; (with_reducible repeat (first | refine blk_drewN ?_ _ | refine blk_drew ?_ | refine blk_alloc ?_ _)); refine blk_put (cs := #[.int .i64 a2, .int .i64 (wrap64 (a3_3 - 1)), .int .i64 0, .string (⟨#[]⟩ : ByteArray)]) ?_ 2 _ rfl; (with_reducible repeat (first | refine blk_drewN ?_ _ | refine blk_drew ?_ | refine blk_alloc ?_ _)); refine blk_put (cs := #[.int .i64 a2, .int .i64 0, .int .i64 0, .string (⟨#[]⟩ : ByteArray)]) ?_ 1 _ rfl; (with_reducible repeat (first | refine blk_drewN ?_ _ | refine blk_drew ?_ | refine blk_alloc ?_ _)); refine blk_put (cs := #[.int .i64 0, .int .i64 0, .int .i64 0, .string (⟨#[]⟩ : ByteArray)]) ?_ 0 _ rfl; (with_reducible repeat (first | refine blk_drewN ?_ _ | refine blk_drew ?_ | refine blk_alloc ?_ _)); exact BK404.out)⟩
   refine steps_cons ?_ ?_
   ·rintro b a w' ⟨v407, v411, ha, Q_BK401, Q_BK402, Q_BK403, Q_BK404, Q_HB, Q_HO408, Q_HO412, Q_BK404_e24⟩ hb_ hon hoff
    refine ⟨_, rfl, fun K hK => ?_⟩
    replace ha := Aside0.mk ha
    have BK401 := Aside0.mk Q_BK401
    have BK402 := Aside0.mk Q_BK402
    have BK403 := Aside0.mk Q_BK403
    have HB := Aside0.mk Q_HB
    have HO408 := Aside0.mk (Q_HO408 (hon 6 (by kernel_rfl)))
    have HO412 := Aside0.mk (Q_HO412 (hon 13 (by kernel_rfl)))
    have BK404 := Aside0.mk (Q_BK404_e24 (hon 24 (by kernel_rfl)))
    refine value_ (w1 := w') (v := .int .i64 0) (by rfl) rfl ?_ ?_
    ·go_simp
     (try simp only [i64_w])
     try rfl
    refine hK.out _ _ ⟨v407, v411, (by rw [ha.out]; exact putSel_upk 14 hb_ rfl rfl rfl), Q_BK401, Q_BK402, Q_BK403, fun h0_ => absurd ((hon 24 (by kernel_rfl)).symm.trans h0_) (by decide), Q_HB, Q_HO408, Q_HO412, Q_BK404_e24⟩
   exact steps_nil
  rintro b a w37 hall ⟨v407, v411, ha, Q_BK401, Q_BK402, Q_BK403, Q_BK404, Q_HB, Q_HO408, Q_HO412, Q_BK404_e24⟩
  clear BK401 BK402 BK403 BK404 HB
  have hb1_ := hall 1 (by kernel_rfl)
  have hb3_ := hall 3 (by kernel_rfl)
  have hb4_ := hall 4 (by kernel_rfl)
  have hb6_ := hall 6 (by kernel_rfl)
  have hb7_ := hall 7 (by kernel_rfl)
  have hb9_ := hall 9 (by kernel_rfl)
  have hb11_ := hall 11 (by kernel_rfl)
  have hb13_ := hall 13 (by kernel_rfl)
  have hb14_ := hall 14 (by kernel_rfl)
  have hb18_ := hall 18 (by kernel_rfl)
  have hb20_ := hall 20 (by kernel_rfl)
  have hb21_ := hall 21 (by kernel_rfl)
  have hb22_ := hall 22 (by kernel_rfl)
  have hb23_ := hall 23 (by kernel_rfl)
  have hb24_ := hall 24 (by kernel_rfl)
  have hb25_ := hall 25 (by kernel_rfl)
  subst ha
  simp only [putSel, hb1_, hb3_, hb4_, hb6_, hb7_, hb9_, hb11_, hb13_, hb14_, hb18_, hb20_, hb21_, hb22_, hb23_, hb24_, hb25_, if_true, Act.put, List.setIfInBounds_toArray, List.set_cons_zero, List.set_cons_succ]
  have BK401 := Aside0.mk Q_BK401
  clear Q_BK401
  have BK402 := Aside0.mk Q_BK402
  clear Q_BK402
  have BK403 := Aside0.mk Q_BK403
  clear Q_BK403
  clear Q_BK404
  have HB := Aside0.mk Q_HB
  clear Q_HB
  have HO408 := Aside0.mk (Q_HO408 hb6_)
  clear Q_HO408
  have HO412 := Aside0.mk (Q_HO412 hb13_)
  clear Q_HO412
  have BK404 := Aside0.mk (Q_BK404_e24 hb24_)
  clear Q_BK404_e24
  clear hall hb1_ hb3_ hb4_ hb6_ hb7_ hb9_ hb11_ hb13_ hb14_ hb18_ hb20_ hb21_ hb22_ hb23_ hb24_ hb25_
  try go_wp2
  refine bodyPost_ret (results_list (rs := [.tmp 8, .tmp 9, .cell 10 35, .tmp 11]) rfl (by simp) (.tmp (.tmp (.cell gb404 35 #[.int .i64 a2, .int .i64 (wrap64 (a3_3 - 1)), .int .i64 a3_4, .string a3_5] (0, 0) _ rfl (by (with_reducible repeat (first | refine blk_drewN ?_ _ | refine blk_drew ?_ | refine blk_alloc ?_ _)); exact BK404.out) Try.underlying35 rfl (by kernel_rfl) (.tmp .nil))))) rfl ?_
  exact ⟨by first | rfl | (simp [*] <;> rfl), by repeat (first | (with_reducible first | exact HB.out | apply below_alloc | apply pw_below_drewN | apply below_drew1 | refine below_set ?_ GE401.out | refine below_set ?_ GE402.out | refine below_set ?_ GE403.out | refine below_set ?_ GE404.out) | exact HB.out)⟩
 ·rw [if_neg c6] at H
  have c6b0 : (t405 == 0) = false := beq_eq_false_iff_ne.mpr c6
  have c6b1 : (t405 != 0) = true := bne_iff_ne.mpr c6
  simp only [Option.some.injEq, Prod.mk.injEq] at H
  obtain ⟨rfl, rfl, rfl, rfl, rfl, rfl, rfl⟩ := H
  go_enter Try.func9, Try.ntmps9
  go_wp2_with (first | ((with_reducible refine gate_load (t := 30) (x := .tmp 5) rfl ?_); refine load_row_g (cs := ?_) ?hw 30 (.tmp 5) ?h2 gb402 ?hx 30 (fr := (0, 0)) (d := ?_) ?hg ?h3 ?h4 ?hi ?_; (case hw => first | (with_reducible rfl) | (go_simp; done) | rfl); (case h2 => rfl); (case hx => first | (with_reducible rfl) | (go_simp; done) | rfl); (case hg => (with_reducible repeat (first | refine blk_drewN ?_ _ | refine blk_drew ?_ | refine blk_alloc ?_ _)); with_reducible exact BK402.out); (case h3 => exact Try.underlying30); (case h4 => rfl); (case hi => kernel_rfl)) | ((with_reducible refine gate_dst (N := 4) rfl ?_); refine box_event ?hg (N := 4) ?hd (cs := #[.int .i64 a0_0, .int .i64 a0_1, .int .i64 a0_2, .int .i64 a0_3, .int .i64 a0_4, .int .i64 a0_5, .int .i64 a0_6, .int .i64 a0_7, .int .i64 a0_8, .int .i64 a0_9, .slice A0_10 l0_10.length c0_10]) (t := 24) ?hr ?_; (case hd => rfl); (case hg => rfl); (case hr => first | (go_simp; done) | (go_simp; rfl)); intro gb401 hg w38 hbox hb; have BK401 := Aside0.mk (hbox); have GW401 := Aside0.mk ((by rw [hg]; exact (below_size HB.out) : w.heap.size ≤ gb401)); have GE401 := GW401; replace HB := Aside0.mk (below_step HB.out hb); clear hb hbox hg) | ((with_reducible refine gate_dst (N := 5) rfl ?_); refine box_event ?hg (N := 5) ?hd (cs := #[.int .i64 a1_0, .int .i64 a1_1, .int .i64 a1_2, .string a1_3, .int .i64 a1_4, .string a1_5, .string a1_6, .int .i64 a1_7, .int .i64 a1_8, .string a1_9, .string a1_10, .string a1_11, .string a1_12, .string a1_13, .string a1_14, .slice A1_15 l1_15.length c1_15, .slice A1_16 l1_16.length c1_16, .slice A1_17 l1_17.length c1_17, .int .i64 a1_18, .int .i64 a1_19, .int .i64 a1_20, .int .i64 a1_21, .int .i64 a1_22, .int .i64 a1_23]) (t := 30) ?hr ?_; (case hd => rfl); (case hg => rfl); (case hr => first | (go_simp; done) | (go_simp; rfl)); intro gb402 hg w39 hbox hb; have BK402 := Aside0.mk (hbox); have GW402 := Aside0.mk ((by rw [hg]; exact (below_size HB.out) : w.heap.size ≤ gb402)); have GE402 := GW402; replace HB := Aside0.mk (below_step HB.out hb); have NB401_402 := Aside0.mk ((by rw [hg]; exact Nat.ne_of_lt (blk_lt BK401.out) : gb401 ≠ gb402)); have NB402_401 := Aside0.mk NB401_402.out.symm; replace BK401 := Aside0.mk (blk_below BK401.out hb); clear hb hbox hg) | ((with_reducible refine gate_dst (N := 7) rfl ?_); refine box_event ?hg (N := 7) ?hd (cs := #[.string a3_0, .int .i64 a3_1, .string a3_2, .int .i64 a3_3, .int .i64 a3_4, .string a3_5]) (t := 32) ?hr ?_; (case hd => rfl); (case hg => rfl); (case hr => first | (go_simp; done) | (go_simp; rfl)); intro gb403 hg w40 hbox hb; have BK403 := Aside0.mk (hbox); have GW403 := Aside0.mk ((by rw [hg]; exact (below_size HB.out) : w.heap.size ≤ gb403)); have GE403 := GW403; replace HB := Aside0.mk (below_step HB.out hb); have NB401_403 := Aside0.mk ((by rw [hg]; exact Nat.ne_of_lt (blk_lt BK401.out) : gb401 ≠ gb403)); have NB403_401 := Aside0.mk NB401_403.out.symm; replace BK401 := Aside0.mk (blk_below BK401.out hb); have NB402_403 := Aside0.mk ((by rw [hg]; exact Nat.ne_of_lt (blk_lt BK402.out) : gb402 ≠ gb403)); have NB403_402 := Aside0.mk NB402_403.out.symm; replace BK402 := Aside0.mk (blk_below BK402.out hb); clear hb hbox hg) | ((with_reducible refine gate_dst (N := 10) rfl ?_); refine box_event ?hg (N := 10) ?hd (cs := #[.int .i64 0, .int .i64 0, .int .i64 0, .string (⟨#[]⟩ : ByteArray)]) (t := 35) ?hr ?_; (case hd => rfl); (case hg => rfl); (case hr => first | (go_simp; done) | (go_simp; rfl)); intro gb404 hg w41 hbox hb; have BK404 := Aside0.mk (hbox); have GW404 := Aside0.mk ((by rw [hg]; exact (below_size HB.out) : w.heap.size ≤ gb404)); have GE404 := GW404; replace HB := Aside0.mk (below_step HB.out hb); have NB401_404 := Aside0.mk ((by rw [hg]; exact Nat.ne_of_lt (blk_lt BK401.out) : gb401 ≠ gb404)); have NB404_401 := Aside0.mk NB401_404.out.symm; replace BK401 := Aside0.mk (blk_below BK401.out hb); have NB402_404 := Aside0.mk ((by rw [hg]; exact Nat.ne_of_lt (blk_lt BK402.out) : gb402 ≠ gb404)); have NB404_402 := Aside0.mk NB402_404.out.symm; replace BK402 := Aside0.mk (blk_below BK402.out hb); have NB403_404 := Aside0.mk ((by rw [hg]; exact Nat.ne_of_lt (blk_lt BK403.out) : gb403 ≠ gb404)); have NB404_403 := Aside0.mk NB403_404.out.symm; replace BK403 := Aside0.mk (blk_below BK403.out hb); clear hb hbox hg; have hnb42 := NB401_402.out; have hnc42 := NB402_401.out; have hnb43 := NB401_403.out; have hnc43 := NB403_401.out; have hnb44 := NB401_404.out; have hnc44 := NB404_401.out; obtain ⟨hcz45_0, hcz45_1, hcz45_2, hcz45_3, hcz45_4, hcz45_5, hcz45_6, hcz45_7, hcz45_8, hcz45_9, hcz45_10⟩ := cells_11 BK401.out; obtain ⟨hfz45_0, hfz45_1, hfz45_2, hfz45_3, hfz45_4, hfz45_5, hfz45_6, hfz45_7, hfz45_8, hfz45_9, hfz45_10⟩ := frozen_11 BK401.out; have hnb46 := NB402_403.out; have hnc46 := NB403_402.out; have hnb47 := NB402_404.out; have hnc47 := NB404_402.out; have hall3_ := cells_24 BK402.out; have hall4_ := frozen_24 BK402.out; have hnb49 := NB403_404.out; have hnc49 := NB404_403.out; obtain ⟨hcz50_0, hcz50_1, hcz50_2, hcz50_3, hcz50_4, hcz50_5⟩ := cells_6 BK403.out; obtain ⟨hfz50_0, hfz50_1, hfz50_2, hfz50_3, hfz50_4, hfz50_5⟩ := frozen_6 BK403.out) | ((with_reducible refine gate_callee (f := 11) rfl ?_); refine goesL_ (some 18) rfl rfl Try.func11 (by kernel_rfl) rfl #[.agg #[.int .i64 a0_0, .int .i64 a0_1, .int .i64 a0_2, .int .i64 a0_3, .int .i64 a0_4, .int .i64 a0_5, .int .i64 a0_6, .int .i64 a0_7, .int .i64 a0_8, .int .i64 a0_9, .slice A0_10 l0_10.length c0_10], .agg #[.int .i64 a1_0, .int .i64 a1_1, .int .i64 a1_2, .string a1_3, .int .i64 a1_4, .string a1_5, .string a1_6, .int .i64 a1_7, .int .i64 a1_8, .string a1_9, .string a1_10, .string a1_11, .string a1_12, .string a1_13, .string a1_14, .slice A1_15 l1_15.length c1_15, .slice A1_16 l1_16.length c1_16, .slice A1_17 l1_17.length c1_17, .int .i64 a1_18, .int .i64 a1_19, .int .i64 a1_20, .int .i64 a1_21, .int .i64 a1_22, .int .i64 a1_23], .int .i64 a2, .agg #[.string a3_0, .int .i64 a3_1, .string a3_2, .int .i64 a3_3, .int .i64 a3_4, .string a3_5]] rfl (by (try simp only [List.map_toArray, List.map_cons, List.map_nil]); first | done | rfl) ?_; (with_reducible refine (r24_Check.calls k a0_0 a0_1 a0_2 a0_3 a0_4 a0_5 a0_6 a0_7 a0_8 a0_9 _ _ l0_10 a1_0 a1_1 a1_2 a1_3 a1_4 a1_5 a1_6 a1_7 a1_8 a1_9 a1_10 a1_11 a1_12 a1_13 a1_14 _ _ l1_15 _ _ l1_16 _ _ l1_17 a1_18 a1_19 a1_20 a1_21 a1_22 a1_23 a2 a3_0 a3_1 a3_2 a3_3 a3_4 a3_5 t405 _ ?side1 ?side2 ?side3 ?side4 ?side5 ?side6 ?side7 ?side8 A5.out).mono ?_); (case side1 => exact (Kd.C_below HR0_10.out HB.out)); (case side2 => exact HC0_10.out); (case side3 => exact (Kd.C_below HR1_15.out HB.out)); (case side4 => exact HC1_15.out); (case side5 => exact (Kd.C_below HR1_16.out HB.out)); (case side6 => exact HC1_16.out); (case side7 => exact (Kd.C_below HR1_17.out HB.out)); (case side8 => exact HC1_17.out); rintro e w51 ⟨rfl, hb⟩; refine ⟨_, rfl, ?_⟩; replace BK401 := Aside0.mk (blk_below BK401.out hb); replace BK402 := Aside0.mk (blk_below BK402.out hb); replace BK403 := Aside0.mk (blk_below BK403.out hb); replace BK404 := Aside0.mk (blk_below BK404.out hb); replace HB := Aside0.mk (below_step HB.out hb); (try clear hb); obtain ⟨hcz52_0, hcz52_1, hcz52_2, hcz52_3⟩ := cells_4 BK404.out; obtain ⟨hfz52_0, hfz52_1, hfz52_2, hfz52_3⟩ := frozen_4 BK404.out))
  refine bodyPost_ret (results_list (rs := [.tmp 8, .tmp 9, .cell 10 35, .tmp 11]) rfl (by simp) (.tmp (.tmp (.cell gb404 35 #[.int .i64 0, .int .i64 0, .int .i64 0, .string (⟨#[]⟩ : ByteArray)] (0, 0) _ rfl (by (with_reducible repeat (first | refine blk_drewN ?_ _ | refine blk_drew ?_ | refine blk_alloc ?_ _)); refine blk_put (cs := #[.int .i64 0, .int .i64 0, .int .i64 0, .string (⟨#[]⟩ : ByteArray)]) ?_ 3 _ rfl; (with_reducible repeat (first | refine blk_drewN ?_ _ | refine blk_drew ?_ | refine blk_alloc ?_ _)); refine blk_put (cs := #[.int .i64 0, .int .i64 0, .int .i64 0, .string (⟨#[]⟩ : ByteArray)]) ?_ 2 _ rfl; (with_reducible repeat (first | refine blk_drewN ?_ _ | refine blk_drew ?_ | refine blk_alloc ?_ _)); refine blk_put (cs := #[.int .i64 0, .int .i64 0, .int .i64 0, .string (⟨#[]⟩ : ByteArray)]) ?_ 1 _ rfl; (with_reducible repeat (first | refine blk_drewN ?_ _ | refine blk_drew ?_ | refine blk_alloc ?_ _)); refine blk_put (cs := #[.int .i64 0, .int .i64 0, .int .i64 0, .string (⟨#[]⟩ : ByteArray)]) ?_ 0 _ rfl; (with_reducible repeat (first | refine blk_drewN ?_ _ | refine blk_drew ?_ | refine blk_alloc ?_ _)); exact BK404.out) Try.underlying35 rfl (by kernel_rfl) (.tmp .nil))))) rfl ?_
  exact ⟨by first | rfl | (simp [*] <;> rfl), by repeat (first | (with_reducible first | exact HB.out | apply below_alloc | apply pw_below_drewN | apply below_drew1 | refine below_set ?_ GE401.out | refine below_set ?_ GE402.out | refine below_set ?_ GE403.out | refine below_set ?_ GE404.out) | exact HB.out)⟩
end Go.Proofs.Ytebflimijebbnaa.Gn
