import Derived.Test.YtebflimijebbnaaZAcceptAllGn0
import Derived.Test.YtebflimijebbnaaZAcceptAllGn2
import Derived.Test.YtebflimijebbnaaZAcceptAllGn12
import Derived.Test.YtebflimijebbnaaZAcceptAllGn15
namespace Go.Proofs.Ytebflimijebbnaa.Gn
open Go.RowKit Go.Proofs.YtebflimijebbnaaW.PrintWords Go.Proofs.YtebflimijebbnaaW.PrintLast Go.Proofs.YtebflimijebbnaaW.PrintMore
attribute [local go_sem] max2_int min2_int max_two min_two max_three min_three max_four min_four   -- for this text's walks alone
set_option linter.unusedVariables false
set_option linter.unusedSimpArgs false
def accept_Take.f (k : Nat) (a0_0 a0_1 a0_2 a0_3 a0_4 a0_5 a0_6 a0_7 a0_8 a0_9 : Int) (l0_10 : List Int) (a1_0 a1_1 a1_2 : Int) (a1_3 : ByteArray) (a1_4 : Int) (a1_5 a1_6 : ByteArray) (a1_7 a1_8 : Int) (a1_9 a1_10 a1_11 a1_12 a1_13 a1_14 : ByteArray) (l1_15 : List (S99)) (l1_16 : List ByteArray) (l1_17 : List (S101)) (a1_18 a1_19 a1_20 a1_21 a1_22 a1_23 a2 : Int) (a3_0 : ByteArray) (a3_1 : Int) (a3_2 : ByteArray) (a3_3 a3_4 : Int) (a3_5 : ByteArray) : Option (ByteArray × ByteArray × Int × Int × Int × ByteArray × Int) := (accept_Check.f k a0_0 a0_1 a0_2 a0_3 a0_4 a0_5 a0_6 a0_7 a0_8 a0_9 l0_10 a1_0 a1_1 a1_2 a1_3 a1_4 a1_5 a1_6 a1_7 a1_8 a1_9 a1_10 a1_11 a1_12 a1_13 a1_14 l1_15 l1_16 l1_17 a1_18 a1_19 a1_20 a1_21 a1_22 a1_23 a2 a3_0 a3_1 a3_2 a3_3 a3_4 a3_5).bind fun t405 => (if t405 = 0 then ((gate_Mark.f k a1_11 (l0_10.length : Int) (([wrap64 (a3_3 - 1)] : List Int))).bind fun t409 => ((gate_Mark.f k a1_10 a0_0 (([a2] : List Int))).bind fun t413 => (some (t409, t413, a2, wrap64 (a3_3 - 1), a3_4, a3_5, 0)))) else (some ((⟨#[]⟩ : ByteArray), (⟨#[]⟩ : ByteArray), 0, 0, 0, (⟨#[]⟩ : ByteArray), t405)))
theorem accept_Take.mono : ∀ a0 a1 a2 a3 a4 a5 a6 a7 a8 a9 a10 a11 a12 a13 a14 a15 a16 a17 a18 a19 a20 a21 a22 a23 a24 a25 a26 a27 a28 a29 a30 a31 a32 a33 a34 a35 a36 a37 a38 a39 a40 a41 k, LeO (accept_Take.f k a0 a1 a2 a3 a4 a5 a6 a7 a8 a9 a10 a11 a12 a13 a14 a15 a16 a17 a18 a19 a20 a21 a22 a23 a24 a25 a26 a27 a28 a29 a30 a31 a32 a33 a34 a35 a36 a37 a38 a39 a40 a41) (accept_Take.f (k + 1) a0 a1 a2 a3 a4 a5 a6 a7 a8 a9 a10 a11 a12 a13 a14 a15 a16 a17 a18 a19 a20 a21 a22 a23 a24 a25 a26 a27 a28 a29 a30 a31 a32 a33 a34 a35 a36 a37 a38 a39 a40 a41) := by
 intro a0 a1 a2 a3 a4 a5 a6 a7 a8 a9 a10 a11 a12 a13 a14 a15 a16 a17 a18 a19 a20 a21 a22 a23 a24 a25 a26 a27 a28 a29 a30 a31 a32 a33 a34 a35 a36 a37 a38 a39 a40 a41 k
 unfold accept_Take.f
 repeat' first
   | (with_reducible exact accept_Check.mono _ _ _ _ _ _ _ _ _ _ _ _ _ _ _ _ _ _ _ _ _ _ _ _ _ _ _ _ _ _ _ _ _ _ _ _ _ _ _ _ _ _ _)
   | (with_reducible exact gate_Mark.mono _ _ _ _)
   | (with_reducible exact LeO.refl _)
   | (with_reducible exact LeO.none _)
   | (with_reducible refine LeO.ite ?_ ?_)
   | (with_reducible refine LeO.bind ?_ (fun _ => ?_))
   | exact accept_Check.mono _ _ _ _ _ _ _ _ _ _ _ _ _ _ _ _ _ _ _ _ _ _ _ _ _ _ _ _ _ _ _ _ _ _ _ _ _ _ _ _ _ _ _
   | exact gate_Mark.mono _ _ _ _
   | exact LeO.none _
   | refine LeO.ite ?_ ?_
   | refine LeO.bind ?_ (fun _ => ?_)
def accept_Take.T6 : Bool × List (List Nat × List Nat) := (true, [([], []), ([0], [0]), ([], []), ([2], [2]), ([3], [3]), ([], []), ([5], [5]), ([1, 4, 6], [1, 4, 6]), ([], []), ([8], [8]), ([], []), ([10], [10]), ([], []), ([12], [12]), ([9, 11, 13, 7], [9, 11, 13]), ([], []), ([7, 14, 0, 1, 2, 3, 4, 5, 6, 7], [7]), ([14, 16, 0, 1, 2, 3, 4, 5, 6, 7, 8, 9, 10, 11, 12, 13, 14, 16], [14]), ([15, 17, 0, 1, 2, 3, 4, 5, 6, 7, 8, 9, 10, 11, 12, 13, 14, 15, 16, 17], [15]), ([18, 0, 1, 2, 3, 4, 5, 6, 7, 8, 9, 10, 11, 12, 13, 14, 15, 16, 17, 18], [])])
def accept_Take.B6 : List Nat := [0, 1, 0, 4, 12, 0, 32, 127, 0, 256, 0, 1024, 0, 4096, 16383, 0, 32767, 98303, 262143, 524287]
theorem accept_Take.tab6 : rtab .any (opsOf Try.f8 6) = accept_Take.T6 := by kernel_rfl
theorem accept_Take.bits6 : waitsOk accept_Take.T6.2 accept_Take.B6 = true := by kernel_rfl
set_option maxHeartbeats 8000000 in
set_option maxRecDepth 100000 in
theorem accept_Take.calls (k : Nat) (a0_0 a0_1 a0_2 a0_3 a0_4 a0_5 a0_6 a0_7 a0_8 a0_9 : Int) (A0_10 : Option Addr) (c0_10 : Nat) (l0_10 : List Int) (a1_0 a1_1 a1_2 : Int) (a1_3 : ByteArray) (a1_4 : Int) (a1_5 a1_6 : ByteArray) (a1_7 a1_8 : Int) (a1_9 a1_10 a1_11 a1_12 a1_13 a1_14 : ByteArray) (A1_15 : Option Addr) (c1_15 : Nat) (l1_15 : List (S99)) (A1_16 : Option Addr) (c1_16 : Nat) (l1_16 : List ByteArray) (A1_17 : Option Addr) (c1_17 : Nat) (l1_17 : List (S101)) (a1_18 a1_19 a1_20 a1_21 a1_22 a1_23 a2 : Int) (a3_0 : ByteArray) (a3_1 : Int) (a3_2 : ByteArray) (a3_3 a3_4 : Int) (a3_5 r1 r2 : ByteArray) (r3 r4 r5 : Int) (r6 : ByteArray) (r7 : Int) (w : World) (hr0_10 : Kd.C (Kd.int .i64) w A0_10 l0_10.length l0_10) (hc0_10 : l0_10.length ≤ c0_10) (hr1_15 : Kd.C k99 w A1_15 l1_15.length l1_15) (hc1_15 : l1_15.length ≤ c1_15) (hr1_16 : Kd.C Kd.string w A1_16 l1_16.length l1_16) (hc1_16 : l1_16.length ≤ c1_16) (hr1_17 : Kd.C k101 w A1_17 l1_17.length l1_17) (hc1_17 : l1_17.length ≤ c1_17) (h : accept_Take.f k a0_0 a0_1 a0_2 a0_3 a0_4 a0_5 a0_6 a0_7 a0_8 a0_9 l0_10 a1_0 a1_1 a1_2 a1_3 a1_4 a1_5 a1_6 a1_7 a1_8 a1_9 a1_10 a1_11 a1_12 a1_13 a1_14 l1_15 l1_16 l1_17 a1_18 a1_19 a1_20 a1_21 a1_22 a1_23 a2 a3_0 a3_1 a3_2 a3_3 a3_4 a3_5 = some (r1, r2, r3, r4, r5, r6, r7)) :
  Calls Try.prog 8 #[.agg #[.int .i64 a0_0, .int .i64 a0_1, .int .i64 a0_2, .int .i64 a0_3, .int .i64 a0_4, .int .i64 a0_5, .int .i64 a0_6, .int .i64 a0_7, .int .i64 a0_8, .int .i64 a0_9, .slice A0_10 l0_10.length c0_10], .agg #[.int .i64 a1_0, .int .i64 a1_1, .int .i64 a1_2, .string a1_3, .int .i64 a1_4, .string a1_5, .string a1_6, .int .i64 a1_7, .int .i64 a1_8, .string a1_9, .string a1_10, .string a1_11, .string a1_12, .string a1_13, .string a1_14, .slice A1_15 l1_15.length c1_15, .slice A1_16 l1_16.length c1_16, .slice A1_17 l1_17.length c1_17, .int .i64 a1_18, .int .i64 a1_19, .int .i64 a1_20, .int .i64 a1_21, .int .i64 a1_22, .int .i64 a1_23], .int .i64 a2, .agg #[.string a3_0, .int .i64 a3_1, .string a3_2, .int .i64 a3_3, .int .i64 a3_4, .string a3_5]] w fun e w' => e = .returned (.tuple #[.string r1, .string r2, .agg #[.int .i64 r3, .int .i64 r4, .int .i64 r5, .string r6], .int .i64 r7]) ∧ Below w.heap.size w w' := by
 have hu24 := Try.underlying24
 have hu32 := Try.underlying32
 have hu35 := Try.underlying35
 have HR0_10 := Aside0.mk hr0_10
 have HC0_10 := Aside0.mk hc0_10
 clear hr0_10 hc0_10
 have HR1_15 := Aside0.mk hr1_15
 have HC1_15 := Aside0.mk hc1_15
 clear hr1_15 hc1_15
 have HR1_16 := Aside0.mk hr1_16
 have HC1_16 := Aside0.mk hc1_16
 clear hr1_16 hc1_16
 have HR1_17 := Aside0.mk hr1_17
 have HC1_17 := Aside0.mk hc1_17
 clear hr1_17 hc1_17
 have HB := Aside0.mk (Below.refl w.heap.size w)
 have H : ((accept_Check.f k a0_0 a0_1 a0_2 a0_3 a0_4 a0_5 a0_6 a0_7 a0_8 a0_9 l0_10 a1_0 a1_1 a1_2 a1_3 a1_4 a1_5 a1_6 a1_7 a1_8 a1_9 a1_10 a1_11 a1_12 a1_13 a1_14 l1_15 l1_16 l1_17 a1_18 a1_19 a1_20 a1_21 a1_22 a1_23 a2 a3_0 a3_1 a3_2 a3_3 a3_4 a3_5).bind fun t405 => (if t405 = 0 then ((gate_Mark.f k a1_11 (l0_10.length : Int) (([wrap64 (a3_3 - 1)] : List Int))).bind fun t409 => ((gate_Mark.f k a1_10 a0_0 (([a2] : List Int))).bind fun t413 => (some (t409, t413, a2, wrap64 (a3_3 - 1), a3_4, a3_5, 0)))) else (some ((⟨#[]⟩ : ByteArray), (⟨#[]⟩ : ByteArray), 0, 0, 0, (⟨#[]⟩ : ByteArray), t405)))) = some (r1, r2, r3, r4, r5, r6, r7) := h
 clear h
 replace H := Option.bind_eq_some_iff.mp H
 obtain ⟨t405, A50, H⟩ := H
 try dsimp only at H
 have A5 := Aside0.mk A50
 clear A50
 by_cases c6 : t405 = 0
 ·rw [if_pos c6] at H
  have c6b0 : (t405 == 0) = true := beq_iff_eq.mpr c6
  have c6b1 : (t405 != 0) = false := bne_eq_false_iff_eq.mpr c6
  clear c6
  obtain ⟨y406, hy406⟩ : ∃ y_ : List Int, y_ = (([wrap64 (a3_3 - 1)] : List Int)) := ⟨_, rfl⟩
  replace H : ((gate_Mark.f k a1_11 (l0_10.length : Int) y406).bind fun t409 => ((gate_Mark.f k a1_10 a0_0 (([a2] : List Int))).bind fun t413 => (some (t409, t413, a2, wrap64 (a3_3 - 1), a3_4, a3_5, 0)))) = some (r1, r2, r3, r4, r5, r6, r7) := by first | (rw [hy406]; with_reducible exact H) | (have H2_ := (Option.bind_some _ _).symm.trans H; rw [hy406]; with_reducible exact H2_) | (have H2_ := (Option.bind_some _ _).symm.trans H; with_reducible exact H2_) | with_reducible exact H | (rw [hy406]; exact H) | exact H
  have Ny406 := Aside0.mk hy406
  clear hy406
  replace H := Option.bind_eq_some_iff.mp H
  obtain ⟨t409, A70, H⟩ := H
  try dsimp only at H
  have A7 := Aside0.mk A70
  clear A70
  obtain ⟨y410, hy410⟩ : ∃ y_ : List Int, y_ = (([a2] : List Int)) := ⟨_, rfl⟩
  replace H : ((gate_Mark.f k a1_10 a0_0 y410).bind fun t413 => (some (t409, t413, a2, wrap64 (a3_3 - 1), a3_4, a3_5, 0))) = some (r1, r2, r3, r4, r5, r6, r7) := by first | (rw [hy410]; with_reducible exact H) | (have H2_ := (Option.bind_some _ _).symm.trans H; rw [hy410]; with_reducible exact H2_) | (have H2_ := (Option.bind_some _ _).symm.trans H; with_reducible exact H2_) | with_reducible exact H | (rw [hy410]; exact H) | exact H
  have Ny410 := Aside0.mk hy410
  clear hy410
  replace H := Option.bind_eq_some_iff.mp H
  obtain ⟨t413, A80, H⟩ := H
  try dsimp only at H
  have A8 := Aside0.mk A80
  clear A80
  simp only [Option.some.injEq, Prod.mk.injEq] at H
  obtain ⟨rfl, rfl, rfl, rfl, rfl, rfl, rfl⟩ := H
  go_enter Try.func8, Try.ntmps8
  try go_wp2_with (first | ((with_reducible refine gate_load (t := 30) (x := .tmp 5) rfl ?_); refine load_row_g (cs := ?_) ?hw 30 (.tmp 5) ?h2 gb402 ?hx 30 (fr := (0, 0)) (d := ?_) ?hg ?h3 ?h4 ?hi ?_; (case hw => first | (with_reducible rfl) | (go_simp; done) | rfl); (case h2 => rfl); (case hx => first | (with_reducible rfl) | (go_simp; done) | rfl); (case hg => (with_reducible repeat (first | refine blk_drewN ?_ _ | refine blk_drew ?_ | refine blk_alloc ?_ _)); with_reducible exact BK402.out); (case h3 => exact Try.underlying30); (case h4 => rfl); (case hi => kernel_rfl)) | ((with_reducible refine gate_dst (N := 4) rfl ?_); refine box_event ?hg (N := 4) ?hd (cs := #[.int .i64 a0_0, .int .i64 a0_1, .int .i64 a0_2, .int .i64 a0_3, .int .i64 a0_4, .int .i64 a0_5, .int .i64 a0_6, .int .i64 a0_7, .int .i64 a0_8, .int .i64 a0_9, .slice A0_10 l0_10.length c0_10]) (t := 24) ?hr ?_; (case hd => rfl); (case hg => rfl); (case hr => first | (go_simp; done) | (go_simp; rfl)); intro gb401 hg w9 hbox hb; have BK401 := Aside0.mk (hbox); have GW401 := Aside0.mk ((by rw [hg]; exact (below_size HB.out) : w.heap.size ≤ gb401)); have GE401 := GW401; replace HB := Aside0.mk (below_step HB.out hb); clear hb hbox hg) | ((with_reducible refine gate_dst (N := 5) rfl ?_); refine box_event ?hg (N := 5) ?hd (cs := #[.int .i64 a1_0, .int .i64 a1_1, .int .i64 a1_2, .string a1_3, .int .i64 a1_4, .string a1_5, .string a1_6, .int .i64 a1_7, .int .i64 a1_8, .string a1_9, .string a1_10, .string a1_11, .string a1_12, .string a1_13, .string a1_14, .slice A1_15 l1_15.length c1_15, .slice A1_16 l1_16.length c1_16, .slice A1_17 l1_17.length c1_17, .int .i64 a1_18, .int .i64 a1_19, .int .i64 a1_20, .int .i64 a1_21, .int .i64 a1_22, .int .i64 a1_23]) (t := 30) ?hr ?_; (case hd => rfl); (case hg => rfl); (case hr => first | (go_simp; done) | (go_simp; rfl)); intro gb402 hg w10 hbox hb; have BK402 := Aside0.mk (hbox); have GW402 := Aside0.mk ((by rw [hg]; exact (below_size HB.out) : w.heap.size ≤ gb402)); have GE402 := GW402; replace HB := Aside0.mk (below_step HB.out hb); have NB401_402 := Aside0.mk ((by rw [hg]; exact Nat.ne_of_lt (blk_lt BK401.out) : gb401 ≠ gb402)); have NB402_401 := Aside0.mk NB401_402.out.symm; replace BK401 := Aside0.mk (blk_below BK401.out hb); clear hb hbox hg) | ((with_reducible refine gate_dst (N := 7) rfl ?_); refine box_event ?hg (N := 7) ?hd (cs := #[.string a3_0, .int .i64 a3_1, .string a3_2, .int .i64 a3_3, .int .i64 a3_4, .string a3_5]) (t := 32) ?hr ?_; (case hd => rfl); (case hg => rfl); (case hr => first | (go_simp; done) | (go_simp; rfl)); intro gb403 hg w11 hbox hb; have BK403 := Aside0.mk (hbox); have GW403 := Aside0.mk ((by rw [hg]; exact (below_size HB.out) : w.heap.size ≤ gb403)); have GE403 := GW403; replace HB := Aside0.mk (below_step HB.out hb); have NB401_403 := Aside0.mk ((by rw [hg]; exact Nat.ne_of_lt (blk_lt BK401.out) : gb401 ≠ gb403)); have NB403_401 := Aside0.mk NB401_403.out.symm; replace BK401 := Aside0.mk (blk_below BK401.out hb); have NB402_403 := Aside0.mk ((by rw [hg]; exact Nat.ne_of_lt (blk_lt BK402.out) : gb402 ≠ gb403)); have NB403_402 := Aside0.mk NB402_403.out.symm; replace BK402 := Aside0.mk (blk_below BK402.out hb); clear hb hbox hg) | ((with_reducible refine gate_dst (N := 10) rfl ?_); refine box_event ?hg (N := 10) ?hd (cs := #[.int .i64 0, .int .i64 0, .int .i64 0, .string (⟨#[]⟩ : ByteArray)]) (t := 35) ?hr ?_; (case hd => rfl); (case hg => rfl); (case hr => first | (go_simp; done) | (go_simp; rfl)); intro gb404 hg w12 hbox hb; have BK404 := Aside0.mk (hbox); have GW404 := Aside0.mk ((by rw [hg]; exact (below_size HB.out) : w.heap.size ≤ gb404)); have GE404 := GW404; replace HB := Aside0.mk (below_step HB.out hb); have NB401_404 := Aside0.mk ((by rw [hg]; exact Nat.ne_of_lt (blk_lt BK401.out) : gb401 ≠ gb404)); have NB404_401 := Aside0.mk NB401_404.out.symm; replace BK401 := Aside0.mk (blk_below BK401.out hb); have NB402_404 := Aside0.mk ((by rw [hg]; exact Nat.ne_of_lt (blk_lt BK402.out) : gb402 ≠ gb404)); have NB404_402 := Aside0.mk NB402_404.out.symm; replace BK402 := Aside0.mk (blk_below BK402.out hb); have NB403_404 := Aside0.mk ((by rw [hg]; exact Nat.ne_of_lt (blk_lt BK403.out) : gb403 ≠ gb404)); have NB404_403 := Aside0.mk NB403_404.out.symm; replace BK403 := Aside0.mk (blk_below BK403.out hb); clear hb hbox hg; have hnb13 := NB401_402.out; have hnc13 := NB402_401.out; have hnb14 := NB401_403.out; have hnc14 := NB403_401.out; have hnb15 := NB401_404.out; have hnc15 := NB404_401.out; obtain ⟨hcz16_0, hcz16_1, hcz16_2, hcz16_3, hcz16_4, hcz16_5, hcz16_6, hcz16_7, hcz16_8, hcz16_9, hcz16_10⟩ := cells_11 BK401.out; obtain ⟨hfz16_0, hfz16_1, hfz16_2, hfz16_3, hfz16_4, hfz16_5, hfz16_6, hfz16_7, hfz16_8, hfz16_9, hfz16_10⟩ := frozen_11 BK401.out; have hnb17 := NB402_403.out; have hnc17 := NB403_402.out; have hnb18 := NB402_404.out; have hnc18 := NB404_402.out; have hall1_ := cells_24 BK402.out; have hall2_ := frozen_24 BK402.out; have hnb20 := NB403_404.out; have hnc20 := NB404_403.out; obtain ⟨hcz21_0, hcz21_1, hcz21_2, hcz21_3, hcz21_4, hcz21_5⟩ := cells_6 BK403.out; obtain ⟨hfz21_0, hfz21_1, hfz21_2, hfz21_3, hfz21_4, hfz21_5⟩ := frozen_6 BK403.out) | ((with_reducible refine gate_callee (f := 10) rfl ?_); refine goesL_ (some 17) rfl rfl Try.func10 (by kernel_rfl) rfl #[.agg #[.int .i64 a0_0, .int .i64 a0_1, .int .i64 a0_2, .int .i64 a0_3, .int .i64 a0_4, .int .i64 a0_5, .int .i64 a0_6, .int .i64 a0_7, .int .i64 a0_8, .int .i64 a0_9, .slice A0_10 l0_10.length c0_10], .agg #[.int .i64 a1_0, .int .i64 a1_1, .int .i64 a1_2, .string a1_3, .int .i64 a1_4, .string a1_5, .string a1_6, .int .i64 a1_7, .int .i64 a1_8, .string a1_9, .string a1_10, .string a1_11, .string a1_12, .string a1_13, .string a1_14, .slice A1_15 l1_15.length c1_15, .slice A1_16 l1_16.length c1_16, .slice A1_17 l1_17.length c1_17, .int .i64 a1_18, .int .i64 a1_19, .int .i64 a1_20, .int .i64 a1_21, .int .i64 a1_22, .int .i64 a1_23], .int .i64 a2, .agg #[.string a3_0, .int .i64 a3_1, .string a3_2, .int .i64 a3_3, .int .i64 a3_4, .string a3_5]] rfl (by (try simp only [List.map_toArray, List.map_cons, List.map_nil]); first | done | rfl) ?_; (with_reducible refine (accept_Check.calls k a0_0 a0_1 a0_2 a0_3 a0_4 a0_5 a0_6 a0_7 a0_8 a0_9 _ _ l0_10 a1_0 a1_1 a1_2 a1_3 a1_4 a1_5 a1_6 a1_7 a1_8 a1_9 a1_10 a1_11 a1_12 a1_13 a1_14 _ _ l1_15 _ _ l1_16 _ _ l1_17 a1_18 a1_19 a1_20 a1_21 a1_22 a1_23 a2 a3_0 a3_1 a3_2 a3_3 a3_4 a3_5 t405 _ ?side1 ?side2 ?side3 ?side4 ?side5 ?side6 ?side7 ?side8 A5.out).mono ?_); (case side1 => exact (Kd.C_below HR0_10.out HB.out)); (case side2 => exact HC0_10.out); (case side3 => exact (Kd.C_below HR1_15.out HB.out)); (case side4 => exact HC1_15.out); (case side5 => exact (Kd.C_below HR1_16.out HB.out)); (case side6 => exact HC1_16.out); (case side7 => exact (Kd.C_below HR1_17.out HB.out)); (case side8 => exact HC1_17.out); rintro e w22 ⟨rfl, hb⟩; refine ⟨_, rfl, ?_⟩; replace BK401 := Aside0.mk (blk_below BK401.out hb); replace BK402 := Aside0.mk (blk_below BK402.out hb); replace BK403 := Aside0.mk (blk_below BK403.out hb); replace BK404 := Aside0.mk (blk_below BK404.out hb); replace HB := Aside0.mk (below_step HB.out hb); (try clear hb); obtain ⟨hcz23_0, hcz23_1, hcz23_2, hcz23_3, hcz23_4, hcz23_5⟩ := cells_6 BK403.out; obtain ⟨hfz23_0, hfz23_1, hfz23_2, hfz23_3, hfz23_4, hfz23_5⟩ := frozen_6 BK403.out; obtain ⟨hcz24_0, hcz24_1, hcz24_2, hcz24_3⟩ := cells_4 BK404.out; obtain ⟨hfz24_0, hfz24_1, hfz24_2, hfz24_3⟩ := frozen_4 BK404.out))
  have n0_ : Aside0 (((((w22.setCell ⟨gb404, 0, none⟩ (.int .i64 a2)).setCell ⟨gb404, 1, none⟩ (.int .i64 (wrap64 (a3_3 - 1)))).setCell ⟨gb404, 2, none⟩ (.int .i64 a3_4)).setCell ⟨gb404, 3, none⟩ (.string a3_5)).heap[gb401]? = some (.cells #[.int .i64 a0_0, .int .i64 a0_1, .int .i64 a0_2, .int .i64 a0_3, .int .i64 a0_4, .int .i64 a0_5, .int .i64 a0_6, .int .i64 a0_7, .int .i64 a0_8, .int .i64 a0_9, .slice A0_10 l0_10.length c0_10] 24 (0, 0))) := ⟨by (iterate 4 ((with_reducible repeat (first | refine blk_drewN ?_ _ | refine blk_drew ?_ | refine blk_alloc ?_ _)); refine blk_far ?_ NB401_404.out _)); (with_reducible repeat (first | refine blk_drewN ?_ _ | refine blk_drew ?_ | refine blk_alloc ?_ _)); exact BK401.out⟩
  have n1_ : Aside0 (((((w22.setCell ⟨gb404, 0, none⟩ (.int .i64 a2)).setCell ⟨gb404, 1, none⟩ (.int .i64 (wrap64 (a3_3 - 1)))).setCell ⟨gb404, 2, none⟩ (.int .i64 a3_4)).setCell ⟨gb404, 3, none⟩ (.string a3_5)).heap[gb402]? = some (.cells #[.int .i64 a1_0, .int .i64 a1_1, .int .i64 a1_2, .string a1_3, .int .i64 a1_4, .string a1_5, .string a1_6, .int .i64 a1_7, .int .i64 a1_8, .string a1_9, .string a1_10, .string a1_11, .string a1_12, .string a1_13, .string a1_14, .slice A1_15 l1_15.length c1_15, .slice A1_16 l1_16.length c1_16, .slice A1_17 l1_17.length c1_17, .int .i64 a1_18, .int .i64 a1_19, .int .i64 a1_20, .int .i64 a1_21, .int .i64 a1_22, .int .i64 a1_23] 30 (0, 0))) := ⟨by (iterate 4 ((with_reducible repeat (first | refine blk_drewN ?_ _ | refine blk_drew ?_ | refine blk_alloc ?_ _)); refine blk_far ?_ NB402_404.out _)); (with_reducible repeat (first | refine blk_drewN ?_ _ | refine blk_drew ?_ | refine blk_alloc ?_ _)); exact BK402.out⟩
  have n2_ : Aside0 (((((w22.setCell ⟨gb404, 0, none⟩ (.int .i64 a2)).setCell ⟨gb404, 1, none⟩ (.int .i64 (wrap64 (a3_3 - 1)))).setCell ⟨gb404, 2, none⟩ (.int .i64 a3_4)).setCell ⟨gb404, 3, none⟩ (.string a3_5)).heap[gb403]? = some (.cells #[.string a3_0, .int .i64 a3_1, .string a3_2, .int .i64 a3_3, .int .i64 a3_4, .string a3_5] 32 (0, 0))) := ⟨by (iterate 4 ((with_reducible repeat (first | refine blk_drewN ?_ _ | refine blk_drew ?_ | refine blk_alloc ?_ _)); refine blk_far ?_ NB403_404.out _)); (with_reducible repeat (first | refine blk_drewN ?_ _ | refine blk_drew ?_ | refine blk_alloc ?_ _)); exact BK403.out⟩
  have n3_ : Aside0 (((((w22.setCell ⟨gb404, 0, none⟩ (.int .i64 a2)).setCell ⟨gb404, 1, none⟩ (.int .i64 (wrap64 (a3_3 - 1)))).setCell ⟨gb404, 2, none⟩ (.int .i64 a3_4)).setCell ⟨gb404, 3, none⟩ (.string a3_5)).heap[gb404]? = some (.cells #[.int .i64 a2, .int .i64 (wrap64 (a3_3 - 1)), .int .i64 a3_4, .string a3_5] 35 (0, 0))) := ⟨by (with_reducible repeat (first | refine blk_drewN ?_ _ | refine blk_drew ?_ | refine blk_alloc ?_ _)); refine blk_put (cs := #[.int .i64 a2, .int .i64 (wrap64 (a3_3 - 1)), .int .i64 a3_4, .string (⟨#[]⟩ : ByteArray)]) ?_ 3 _ rfl; (with_reducible repeat (first | refine blk_drewN ?_ _ | refine blk_drew ?_ | refine blk_alloc ?_ _)); refine blk_put (cs := #[.int .i64 a2, .int .i64 (wrap64 (a3_3 - 1)), .int .i64 0, .string (⟨#[]⟩ : ByteArray)]) ?_ 2 _ rfl; (with_reducible repeat (first | refine blk_drewN ?_ _ | refine blk_drew ?_ | refine blk_alloc ?_ _)); refine blk_put (cs := #[.int .i64 a2, .int .i64 0, .int .i64 0, .string (⟨#[]⟩ : ByteArray)]) ?_ 1 _ rfl; (with_reducible repeat (first | refine blk_drewN ?_ _ | refine blk_drew ?_ | refine blk_alloc ?_ _)); refine blk_put (cs := #[.int .i64 0, .int .i64 0, .int .i64 0, .string (⟨#[]⟩ : ByteArray)]) ?_ 0 _ rfl; (with_reducible repeat (first | refine blk_drewN ?_ _ | refine blk_drew ?_ | refine blk_alloc ?_ _)); exact BK404.out⟩
  have n4_ : Aside0 (Below w.heap.size w ((((w22.setCell ⟨gb404, 0, none⟩ (.int .i64 a2)).setCell ⟨gb404, 1, none⟩ (.int .i64 (wrap64 (a3_3 - 1)))).setCell ⟨gb404, 2, none⟩ (.int .i64 a3_4)).setCell ⟨gb404, 3, none⟩ (.string a3_5))) := ⟨by repeat (first | (with_reducible first | exact HB.out | apply below_alloc | apply pw_below_drewN | apply below_drew1 | refine below_set ?_ GE401.out | refine below_set ?_ GE402.out | refine below_set ?_ GE403.out | refine below_set ?_ GE404.out) | exact HB.out)⟩
  (try clear BK401)
  (try clear BK402)
  (try clear BK403)
  (try clear BK404)
  (try clear HB)
  generalize ((((w22.setCell ⟨gb404, 0, none⟩ (.int .i64 a2)).setCell ⟨gb404, 1, none⟩ (.int .i64 (wrap64 (a3_3 - 1)))).setCell ⟨gb404, 2, none⟩ (.int .i64 a3_4)).setCell ⟨gb404, 3, none⟩ (.string a3_5)) = w25 at n0_ n1_ n2_ n3_ n4_ ⊢
  have BK401 := n0_
  have BK402 := n1_
  have BK403 := n2_
  have BK404 := n3_
  have HB := n4_
  clear n0_ n1_ n2_ n3_ n4_
  replace BK401 := Aside0.mk (blk_drew BK401.out)
  replace BK402 := Aside0.mk (blk_drew BK402.out)
  replace BK403 := Aside0.mk (blk_drew BK403.out)
  replace BK404 := Aside0.mk (blk_drew BK404.out)
  replace HB := Aside0.mk (below_drew1 HB.out)
  refine start_ (n := 20) (S := fun w' => w'.cell? ⟨gb402, 0, none⟩ = some (.int .i64 a1_0) ∧ w'.cell? ⟨gb402, 1, none⟩ = some (.int .i64 a1_1) ∧ w'.cell? ⟨gb402, 2, none⟩ = some (.int .i64 a1_2) ∧ w'.cell? ⟨gb402, 3, none⟩ = some (.string a1_3) ∧ w'.cell? ⟨gb402, 4, none⟩ = some (.int .i64 a1_4) ∧ w'.cell? ⟨gb402, 5, none⟩ = some (.string a1_5) ∧ w'.cell? ⟨gb402, 6, none⟩ = some (.string a1_6) ∧ w'.cell? ⟨gb402, 7, none⟩ = some (.int .i64 a1_7) ∧ w'.cell? ⟨gb402, 8, none⟩ = some (.int .i64 a1_8) ∧ w'.cell? ⟨gb402, 9, none⟩ = some (.string a1_9) ∧ w'.cell? ⟨gb402, 10, none⟩ = some (.string a1_10) ∧ w'.cell? ⟨gb402, 11, none⟩ = some (.string a1_11) ∧ w'.cell? ⟨gb402, 12, none⟩ = some (.string a1_12) ∧ w'.cell? ⟨gb402, 13, none⟩ = some (.string a1_13) ∧ w'.cell? ⟨gb402, 14, none⟩ = some (.string a1_14) ∧ w'.cell? ⟨gb402, 15, none⟩ = some (.slice A1_15 l1_15.length c1_15) ∧ w'.cell? ⟨gb402, 16, none⟩ = some (.slice A1_16 l1_16.length c1_16) ∧ w'.cell? ⟨gb402, 17, none⟩ = some (.slice A1_17 l1_17.length c1_17) ∧ w'.cell? ⟨gb402, 18, none⟩ = some (.int .i64 a1_18) ∧ w'.cell? ⟨gb402, 19, none⟩ = some (.int .i64 a1_19) ∧ w'.cell? ⟨gb402, 20, none⟩ = some (.int .i64 a1_20) ∧ w'.cell? ⟨gb402, 21, none⟩ = some (.int .i64 a1_21) ∧ w'.cell? ⟨gb402, 22, none⟩ = some (.int .i64 a1_22) ∧ w'.cell? ⟨gb402, 23, none⟩ = some (.int .i64 a1_23) ∧ w'.cell? ⟨gb401, 0, none⟩ = some (.int .i64 a0_0) ∧ w'.cell? ⟨gb401, 1, none⟩ = some (.int .i64 a0_1) ∧ w'.cell? ⟨gb401, 2, none⟩ = some (.int .i64 a0_2) ∧ w'.cell? ⟨gb401, 3, none⟩ = some (.int .i64 a0_3) ∧ w'.cell? ⟨gb401, 4, none⟩ = some (.int .i64 a0_4) ∧ w'.cell? ⟨gb401, 5, none⟩ = some (.int .i64 a0_5) ∧ w'.cell? ⟨gb401, 6, none⟩ = some (.int .i64 a0_6) ∧ w'.cell? ⟨gb401, 7, none⟩ = some (.int .i64 a0_7) ∧ w'.cell? ⟨gb401, 8, none⟩ = some (.int .i64 a0_8) ∧ w'.cell? ⟨gb401, 9, none⟩ = some (.int .i64 a0_9) ∧ w'.cell? ⟨gb401, 10, none⟩ = some (.slice A0_10 l0_10.length c0_10) ∧ w'.cell? ⟨gb404, 0, none⟩ = some (.int .i64 a2) ∧ w'.cell? ⟨gb404, 1, none⟩ = some (.int .i64 (wrap64 (a3_3 - 1))) ∧ w'.cell? ⟨gb404, 2, none⟩ = some (.int .i64 a3_4) ∧ w'.cell? ⟨gb404, 3, none⟩ = some (.string a3_5)) (ds := [18]) #[false, false, false, false, false, false, false, false, false, false, false, false, false, false, false, false, false, false, false, false] (by kernel_rfl) rfl rfl ⟨(blk_cell BK402.out 0).trans rfl, (blk_cell BK402.out 1).trans rfl, (blk_cell BK402.out 2).trans rfl, (blk_cell BK402.out 3).trans rfl, (blk_cell BK402.out 4).trans rfl, (blk_cell BK402.out 5).trans rfl, (blk_cell BK402.out 6).trans rfl, (blk_cell BK402.out 7).trans rfl, (blk_cell BK402.out 8).trans rfl, (blk_cell BK402.out 9).trans rfl, (blk_cell BK402.out 10).trans rfl, (blk_cell BK402.out 11).trans rfl, (blk_cell BK402.out 12).trans rfl, (blk_cell BK402.out 13).trans rfl, (blk_cell BK402.out 14).trans rfl, (blk_cell BK402.out 15).trans rfl, (blk_cell BK402.out 16).trans rfl, (blk_cell BK402.out 17).trans rfl, (blk_cell BK402.out 18).trans rfl, (blk_cell BK402.out 19).trans rfl, (blk_cell BK402.out 20).trans rfl, (blk_cell BK402.out 21).trans rfl, (blk_cell BK402.out 22).trans rfl, (blk_cell BK402.out 23).trans rfl, (blk_cell BK401.out 0).trans rfl, (blk_cell BK401.out 1).trans rfl, (blk_cell BK401.out 2).trans rfl, (blk_cell BK401.out 3).trans rfl, (blk_cell BK401.out 4).trans rfl, (blk_cell BK401.out 5).trans rfl, (blk_cell BK401.out 6).trans rfl, (blk_cell BK401.out 7).trans rfl, (blk_cell BK401.out 8).trans rfl, (blk_cell BK401.out 9).trans rfl, (blk_cell BK401.out 10).trans rfl, (blk_cell BK404.out 0).trans rfl, (blk_cell BK404.out 1).trans rfl, (blk_cell BK404.out 2).trans rfl, (blk_cell BK404.out 3).trans rfl⟩ (fun hHeld => ?_); refine with_tabW accept_Take.tab6 accept_Take.bits6 (fun HT_ HW_ => ?_)
  generalize w25.drew = w26 at BK401 BK402 BK403 BK404 HB hHeld ⊢
  refine pure_ (i := 0) (N := some 32) (v := ?_) (a' := ?_) #[true, false, false, false, false, false, false, false, false, false, false, false, false, false, false, false, false, false, false, false] rfl rfl (any_of HT_.out (by kernel_rfl)) (fun _ _ _ h => h) (Or.inl ⟨by rfl, ?_⟩) ?_ ?_
  rotate_left
  ·intro w'
   go_simp
   with_reducible rfl
  rotate_left
  ·simp only [Act.put, List.setIfInBounds_toArray, List.set_cons_zero, List.set_cons_succ, i64_w, i32_w]
   rfl
  refine pure_ (i := 2) (N := some 34) (v := ?_) (a' := ?_) #[true, false, true, false, false, false, false, false, false, false, false, false, false, false, false, false, false, false, false, false] rfl rfl (any_of HT_.out (by kernel_rfl)) (fun _ _ _ h => h) (Or.inl ⟨by rfl, ?_⟩) ?_ ?_
  rotate_left
  ·intro w'
   go_simp
   with_reducible rfl
  rotate_left
  ·simp only [Act.put, List.setIfInBounds_toArray, List.set_cons_zero, List.set_cons_succ, i64_w, i32_w]
   rfl
  refine pure_ (i := 5) (N := some 37) (v := ?_) (a' := ?_) #[true, false, true, false, false, true, false, false, false, false, false, false, false, false, false, false, false, false, false, false] rfl rfl (any_of HT_.out (by kernel_rfl)) (fun _ _ _ h => h) (Or.inl ⟨by rfl, ?_⟩) ?_ ?_
  rotate_left
  ·intro w'
   go_simp
   with_reducible rfl
  rotate_left
  ·simp only [Act.put, List.setIfInBounds_toArray, List.set_cons_zero, List.set_cons_succ, i64_w, i32_w]
   rfl
  refine pure_ (i := 8) (N := some 40) (v := ?_) (a' := ?_) #[true, false, true, false, false, true, false, false, true, false, false, false, false, false, false, false, false, false, false, false] rfl rfl (any_of HT_.out (by kernel_rfl)) (fun _ _ _ h => h) (Or.inl ⟨by rfl, ?_⟩) ?_ ?_
  rotate_left
  ·intro w'
   go_simp
   with_reducible rfl
  rotate_left
  ·simp only [Act.put, List.setIfInBounds_toArray, List.set_cons_zero, List.set_cons_succ, i64_w, i32_w]
   rfl
  refine pure_ (i := 10) (N := some 42) (v := ?_) (a' := ?_) #[true, false, true, false, false, true, false, false, true, false, true, false, false, false, false, false, false, false, false, false] rfl rfl (any_of HT_.out (by kernel_rfl)) (fun _ _ _ h => h) (Or.inl ⟨by rfl, ?_⟩) ?_ ?_
  rotate_left
  ·intro w'
   go_simp
   with_reducible rfl
  rotate_left
  ·simp only [Act.put, List.setIfInBounds_toArray, List.set_cons_zero, List.set_cons_succ, i64_w, i32_w]
   rfl
  refine pure_ (i := 12) (N := some 44) (v := ?_) (a' := ?_) #[true, false, true, false, false, true, false, false, true, false, true, false, true, false, false, false, false, false, false, false] rfl rfl (any_of HT_.out (by kernel_rfl)) (fun _ _ _ h => h) (Or.inl ⟨by rfl, ?_⟩) ?_ ?_
  rotate_left
  ·intro w'
   go_simp
   with_reducible rfl
  rotate_left
  ·simp only [Act.put, List.setIfInBounds_toArray, List.set_cons_zero, List.set_cons_succ, i64_w, i32_w]
   rfl
  refine take_ (i := 1) (N := some 33) (v := ?_) (a' := ?_) #[true, true, true, false, false, true, false, false, true, false, true, false, true, false, false, false, false, false, false, false] rfl rfl (take_ofW HT_.out HW_.out (by kernel_rfl)) (fun _ _ _ h => h) (Or.inl ⟨by rfl, ?_⟩) hHeld ?_ ?_
  rotate_left
  ·rintro w' ⟨s0, s1, s2, s3, s4, s5, s6, s7, s8, s9, s10, s11, s12, s13, s14, s15, s16, s17, s18, s19, s20, s21, s22, s23, s24, s25, s26, s27, s28, s29, s30, s31, s32, s33, s34, s35, s36, s37, s38⟩
   (first | (refine load_cells_24 (ty := 30) (x := .tmp 5) (g := gb402) ?hlo_ ?hx_ Try.underlying30 ?hd_ ?hi_ s0 s1 s2 s3 s4 s5 s6 s7 s8 s9 s10 s11 s12 s13 s14 s15 s16 s17 s18 s19 s20 s21 s22 s23; (case hlo_ => rfl); (case hx_ => rfl); (case hd_ => rfl); (case hi_ => kernel_rfl)) | (go_simp; with_reducible rfl))
  rotate_left
  ·simp only [Act.put, List.setIfInBounds_toArray, List.set_cons_zero, List.set_cons_succ, i64_w, i32_w]
   rfl
  refine take_ (i := 3) (N := some 35) (v := ?_) (a' := ?_) #[true, true, true, true, false, true, false, false, true, false, true, false, true, false, false, false, false, false, false, false] rfl rfl (take_ofW HT_.out HW_.out (by kernel_rfl)) (fun _ _ _ h => h) (Or.inl ⟨by rfl, ?_⟩) hHeld ?_ ?_
  rotate_left
  ·rintro w' ⟨s0, s1, s2, s3, s4, s5, s6, s7, s8, s9, s10, s11, s12, s13, s14, s15, s16, s17, s18, s19, s20, s21, s22, s23, s24, s25, s26, s27, s28, s29, s30, s31, s32, s33, s34, s35, s36, s37, s38⟩
   (first | (refine load_cells_24 (ty := 30) (x := .tmp 5) (g := gb402) ?hlo_ ?hx_ Try.underlying30 ?hd_ ?hi_ s0 s1 s2 s3 s4 s5 s6 s7 s8 s9 s10 s11 s12 s13 s14 s15 s16 s17 s18 s19 s20 s21 s22 s23; (case hlo_ => rfl); (case hx_ => rfl); (case hd_ => rfl); (case hi_ => kernel_rfl)) | (go_simp; with_reducible rfl))
  rotate_left
  ·simp only [Act.put, List.setIfInBounds_toArray, List.set_cons_zero, List.set_cons_succ, i64_w, i32_w]
   rfl
  refine pure_ (i := 4) (N := some 36) (v := ?_) (a' := ?_) #[true, true, true, true, true, true, false, false, true, false, true, false, true, false, false, false, false, false, false, false] rfl rfl (any_of HT_.out (by kernel_rfl)) (fun _ _ _ h => h) (Or.inl ⟨by rfl, ?_⟩) ?_ ?_
  rotate_left
  ·intro w'
   go_simp
   with_reducible rfl
  rotate_left
  ·simp only [Act.put, List.setIfInBounds_toArray, List.set_cons_zero, List.set_cons_succ, i64_w, i32_w]
   rfl
  refine take_ (i := 9) (N := some 41) (v := ?_) (a' := ?_) #[true, true, true, true, true, true, false, false, true, true, true, false, true, false, false, false, false, false, false, false] rfl rfl (take_ofW HT_.out HW_.out (by kernel_rfl)) (fun _ _ _ h => h) (Or.inl ⟨by rfl, ?_⟩) hHeld ?_ ?_
  rotate_left
  ·rintro w' ⟨s0, s1, s2, s3, s4, s5, s6, s7, s8, s9, s10, s11, s12, s13, s14, s15, s16, s17, s18, s19, s20, s21, s22, s23, s24, s25, s26, s27, s28, s29, s30, s31, s32, s33, s34, s35, s36, s37, s38⟩
   (first | (refine load_cells_24 (ty := 30) (x := .tmp 5) (g := gb402) ?hlo_ ?hx_ Try.underlying30 ?hd_ ?hi_ s0 s1 s2 s3 s4 s5 s6 s7 s8 s9 s10 s11 s12 s13 s14 s15 s16 s17 s18 s19 s20 s21 s22 s23; (case hlo_ => rfl); (case hx_ => rfl); (case hd_ => rfl); (case hi_ => kernel_rfl)) | (go_simp; with_reducible rfl))
  rotate_left
  ·simp only [Act.put, List.setIfInBounds_toArray, List.set_cons_zero, List.set_cons_succ, i64_w, i32_w]
   rfl
  refine take_ (i := 11) (N := some 43) (v := ?_) (a' := ?_) #[true, true, true, true, true, true, false, false, true, true, true, true, true, false, false, false, false, false, false, false] rfl rfl (take_ofW HT_.out HW_.out (by kernel_rfl)) (fun _ _ _ h => h) (Or.inl ⟨by rfl, ?_⟩) hHeld ?_ ?_
  rotate_left
  ·rintro w' ⟨s0, s1, s2, s3, s4, s5, s6, s7, s8, s9, s10, s11, s12, s13, s14, s15, s16, s17, s18, s19, s20, s21, s22, s23, s24, s25, s26, s27, s28, s29, s30, s31, s32, s33, s34, s35, s36, s37, s38⟩
   (first | (refine load_cells_24 (ty := 30) (x := .tmp 5) (g := gb402) ?hlo_ ?hx_ Try.underlying30 ?hd_ ?hi_ s0 s1 s2 s3 s4 s5 s6 s7 s8 s9 s10 s11 s12 s13 s14 s15 s16 s17 s18 s19 s20 s21 s22 s23; (case hlo_ => rfl); (case hx_ => rfl); (case hd_ => rfl); (case hi_ => kernel_rfl)) | (go_simp; with_reducible rfl))
  rotate_left
  ·simp only [Act.put, List.setIfInBounds_toArray, List.set_cons_zero, List.set_cons_succ, i64_w, i32_w]
   rfl
  refine take_ (i := 15) (N := some 47) (v := ?_) (a' := ?_) #[true, true, true, true, true, true, false, false, true, true, true, true, true, false, false, true, false, false, false, false] rfl rfl (take_ofW HT_.out HW_.out (by kernel_rfl)) (fun _ _ _ h => h) (Or.inl ⟨by rfl, ?_⟩) hHeld ?_ ?_
  rotate_left
  ·rintro w' ⟨s0, s1, s2, s3, s4, s5, s6, s7, s8, s9, s10, s11, s12, s13, s14, s15, s16, s17, s18, s19, s20, s21, s22, s23, s24, s25, s26, s27, s28, s29, s30, s31, s32, s33, s34, s35, s36, s37, s38⟩
   (first | (refine load_cells_24 (ty := 30) (x := .tmp 5) (g := gb402) ?hlo_ ?hx_ Try.underlying30 ?hd_ ?hi_ s0 s1 s2 s3 s4 s5 s6 s7 s8 s9 s10 s11 s12 s13 s14 s15 s16 s17 s18 s19 s20 s21 s22 s23; (case hlo_ => rfl); (case hx_ => rfl); (case hd_ => rfl); (case hi_ => kernel_rfl)) | (go_simp; with_reducible rfl))
  rotate_left
  ·simp only [Act.put, List.setIfInBounds_toArray, List.set_cons_zero, List.set_cons_succ, i64_w, i32_w]
   rfl
  refine join_ (σ := Value × Value) 5 #[true, true, true, true, true, true, true, true, true, true, true, true, true, true, false, true, false, false, false, false] (fun s_ => [(38, s_.1), (39, .string t409), (45, s_.2)]) (fun s_ w' => (w'.cell? ⟨gb402, 0, none⟩ = some (.int .i64 a1_0) ∧ w'.cell? ⟨gb402, 1, none⟩ = some (.int .i64 a1_1) ∧ w'.cell? ⟨gb402, 2, none⟩ = some (.int .i64 a1_2) ∧ w'.cell? ⟨gb402, 3, none⟩ = some (.string a1_3) ∧ w'.cell? ⟨gb402, 4, none⟩ = some (.int .i64 a1_4) ∧ w'.cell? ⟨gb402, 5, none⟩ = some (.string a1_5) ∧ w'.cell? ⟨gb402, 6, none⟩ = some (.string a1_6) ∧ w'.cell? ⟨gb402, 7, none⟩ = some (.int .i64 a1_7) ∧ w'.cell? ⟨gb402, 8, none⟩ = some (.int .i64 a1_8) ∧ w'.cell? ⟨gb402, 9, none⟩ = some (.string a1_9) ∧ w'.cell? ⟨gb402, 10, none⟩ = some (.string a1_10) ∧ w'.cell? ⟨gb402, 11, none⟩ = some (.string a1_11) ∧ w'.cell? ⟨gb402, 12, none⟩ = some (.string a1_12) ∧ w'.cell? ⟨gb402, 13, none⟩ = some (.string a1_13) ∧ w'.cell? ⟨gb402, 14, none⟩ = some (.string a1_14) ∧ w'.cell? ⟨gb402, 15, none⟩ = some (.slice A1_15 l1_15.length c1_15) ∧ w'.cell? ⟨gb402, 16, none⟩ = some (.slice A1_16 l1_16.length c1_16) ∧ w'.cell? ⟨gb402, 17, none⟩ = some (.slice A1_17 l1_17.length c1_17) ∧ w'.cell? ⟨gb402, 18, none⟩ = some (.int .i64 a1_18) ∧ w'.cell? ⟨gb402, 19, none⟩ = some (.int .i64 a1_19) ∧ w'.cell? ⟨gb402, 20, none⟩ = some (.int .i64 a1_20) ∧ w'.cell? ⟨gb402, 21, none⟩ = some (.int .i64 a1_21) ∧ w'.cell? ⟨gb402, 22, none⟩ = some (.int .i64 a1_22) ∧ w'.cell? ⟨gb402, 23, none⟩ = some (.int .i64 a1_23) ∧ w'.cell? ⟨gb401, 0, none⟩ = some (.int .i64 a0_0) ∧ w'.cell? ⟨gb401, 1, none⟩ = some (.int .i64 a0_1) ∧ w'.cell? ⟨gb401, 2, none⟩ = some (.int .i64 a0_2) ∧ w'.cell? ⟨gb401, 3, none⟩ = some (.int .i64 a0_3) ∧ w'.cell? ⟨gb401, 4, none⟩ = some (.int .i64 a0_4) ∧ w'.cell? ⟨gb401, 5, none⟩ = some (.int .i64 a0_5) ∧ w'.cell? ⟨gb401, 6, none⟩ = some (.int .i64 a0_6) ∧ w'.cell? ⟨gb401, 7, none⟩ = some (.int .i64 a0_7) ∧ w'.cell? ⟨gb401, 8, none⟩ = some (.int .i64 a0_8) ∧ w'.cell? ⟨gb401, 9, none⟩ = some (.int .i64 a0_9) ∧ w'.cell? ⟨gb401, 10, none⟩ = some (.slice A0_10 l0_10.length c0_10) ∧ w'.cell? ⟨gb404, 0, none⟩ = some (.int .i64 a2) ∧ w'.cell? ⟨gb404, 1, none⟩ = some (.int .i64 (wrap64 (a3_3 - 1))) ∧ w'.cell? ⟨gb404, 2, none⟩ = some (.int .i64 a3_4) ∧ w'.cell? ⟨gb404, 3, none⟩ = some (.string a3_5)) ∧ (Kd.R (Kd.int .i64) 3 w' w.heap.size (fun k_ => some k_ ≠ (s_.2 : Value).ownBlock) s_.1 y406) ∧ (Kd.R (Kd.int .i64) 3 w' w.heap.size (fun k_ => some k_ ≠ (s_.1 : Value).ownBlock) s_.2 y410) ∧ (w'.heap[gb401]? = some (.cells #[.int .i64 a0_0, .int .i64 a0_1, .int .i64 a0_2, .int .i64 a0_3, .int .i64 a0_4, .int .i64 a0_5, .int .i64 a0_6, .int .i64 a0_7, .int .i64 a0_8, .int .i64 a0_9, .slice A0_10 l0_10.length c0_10] 24 (0, 0))) ∧ (w'.heap[gb402]? = some (.cells #[.int .i64 a1_0, .int .i64 a1_1, .int .i64 a1_2, .string a1_3, .int .i64 a1_4, .string a1_5, .string a1_6, .int .i64 a1_7, .int .i64 a1_8, .string a1_9, .string a1_10, .string a1_11, .string a1_12, .string a1_13, .string a1_14, .slice A1_15 l1_15.length c1_15, .slice A1_16 l1_16.length c1_16, .slice A1_17 l1_17.length c1_17, .int .i64 a1_18, .int .i64 a1_19, .int .i64 a1_20, .int .i64 a1_21, .int .i64 a1_22, .int .i64 a1_23] 30 (0, 0))) ∧ (w'.heap[gb403]? = some (.cells #[.string a3_0, .int .i64 a3_1, .string a3_2, .int .i64 a3_3, .int .i64 a3_4, .string a3_5] 32 (0, 0))) ∧ (w'.heap[gb404]? = some (.cells #[.int .i64 a2, .int .i64 (wrap64 (a3_3 - 1)), .int .i64 a3_4, .string a3_5] 35 (0, 0))) ∧ (Below w.heap.size w w')) ?_ ?_
  rotate_left
  ·intro hCont
   refine two_ (i := 6) (j := 13) (Ni := some 38) (Nj := some 45) #[true, true, true, true, true, true, true, false, true, true, true, true, true, false, false, true, false, false, false, false] #[true, true, true, true, true, true, false, false, true, true, true, true, true, true, false, true, false, false, false, false] rfl rfl rfl rfl (two_of HT_.out (by kernel_rfl)) (by decide) (by decide) (fun K hK => ?_) (fun K hK => ?_)
   ·skip
    refine Kd.R_lit_step (Kd.int .i64) _ 3 ?hg (N := 38) ?hd (xs := ([wrap64 (a3_3 - 1)] : List Int)) (inner := [.int .i64 (wrap64 (a3_3 - 1))]) (ok := fun _ => True) (okp := fun _ => True) ?hr ?hp (fun _ hk => hk) trivial (Below.refl _ _) (Nat.le_refl _) (by simp) ?_; (case hd => rfl); (case hg => rfl); (case hr => first | (go_simp; done) | (go_simp; rfl)); (case hp => exact (Reps.one (show Kd.M (Kd.int .i64) _ _ _ (wrap64 (a3_3 - 1)) [.int .i64 (wrap64 (a3_3 - 1))] from rfl) (Reps.none _ _)))
    intro v407 w27 ho28 hb hg_ hnew_
    clear hg_ hnew_
    (first | rw [← Ny406.out] at ho28 | (simp only [Int.reduceToNat] at ho28; rw [← Ny406.out] at ho28))
    have HO408 := Aside0.mk (Kd.R_lower ho28 (below_size HB.out))
    replace BK401 := Aside0.mk (blk_below BK401.out hb)
    replace BK402 := Aside0.mk (blk_below BK402.out hb)
    replace BK403 := Aside0.mk (blk_below BK403.out hb)
    replace BK404 := Aside0.mk (blk_below BK404.out hb)
    replace HB := Aside0.mk (below_step HB.out hb)
    clear hb ho28
    obtain ⟨Ao29, co29, eo29⟩ := Kd.R_slice HO408.out
    (first | subst eo29 | (injection eo29 with f1_ f2_ f3_; have f4_ := f1_.symm; have f5_ := f3_.symm; clear f1_ f2_ f3_; subst f4_; subst f5_))
    refine hK.out _ _ (and_24 BK402.out (and_11 BK401.out ⟨(blk_cell BK404.out 0).trans rfl, (blk_cell BK404.out 1).trans rfl, (blk_cell BK404.out 2).trans rfl, (blk_cell BK404.out 3).trans rfl⟩)) (fun hHeld => ?_)
    clear hK K
    refine norm_ (a' := ?_) ?_ ?_
    rotate_left
    ·show Act.put _ (some 38) _ = _
     simp only [Act.put, List.setIfInBounds_toArray, List.set_cons_zero, List.set_cons_succ, i64_w, i32_w]
     rfl
    refine two_ (i := 7) (j := 13) (Ni := some 39) (Nj := some 45) #[true, true, true, true, true, true, true, true, true, true, true, true, true, false, false, true, false, false, false, false] #[true, true, true, true, true, true, true, false, true, true, true, true, true, true, false, true, false, false, false, false] rfl rfl rfl rfl (two_of HT_.out (by kernel_rfl)) (by decide) (by decide) (fun K hK => ?_) (fun K hK => ?_)
    ·skip
     refine goes_ Try.func23 (by kernel_rfl) rfl #[.string a1_11, .int .i64 (l0_10.length : Int), .slice Ao29 y406.length co29] (by rfl) rfl rfl (by (try simp only [List.map_toArray, List.map_cons, List.map_nil]); first | done | rfl) ?_
     with_reducible refine (gate_Mark.calls k a1_11 (l0_10.length : Int) _ _ y406 t409 _ ?side1 ?side2 A7.out).mono ?_
     (case side1 => exact (Kd.R_reads' HO408.out).2.2)
     (case side2 => exact (Kd.R_reads' HO408.out).2.1)
     rintro e w30 ⟨rfl, hb⟩
     refine ⟨_, rfl, ?_⟩
     replace HO408 := Aside0.mk (Kd.R_below HO408.out hb)
     replace BK401 := Aside0.mk (blk_below BK401.out hb)
     replace BK402 := Aside0.mk (blk_below BK402.out hb)
     replace BK403 := Aside0.mk (blk_below BK403.out hb)
     replace BK404 := Aside0.mk (blk_below BK404.out hb)
     replace HB := Aside0.mk (below_step HB.out hb)
     (try clear hb)
     (try clear hb2)
     (try clear hk)
     (try clear hi)
     refine hK.out _ _ (and_24 BK402.out (and_11 BK401.out ⟨(blk_cell BK404.out 0).trans rfl, (blk_cell BK404.out 1).trans rfl, (blk_cell BK404.out 2).trans rfl, (blk_cell BK404.out 3).trans rfl⟩)) (fun hHeld => ?_)
     clear hK K
     refine norm_ (a' := ?_) ?_ ?_
     rotate_left
     ·show Act.put _ (some 39) _ = _
      simp only [Act.put, List.setIfInBounds_toArray, List.set_cons_zero, List.set_cons_succ, i64_w, i32_w]
      rfl
     refine one_ (i := 13) (N := some 45) #[true, true, true, true, true, true, true, true, true, true, true, true, true, true, false, true, false, false, false, false] rfl rfl (one_of HT_.out (by kernel_rfl)) (by decide) (fun K hK => ?_)
     refine Kd.R_lit_step (Kd.int .i64) _ 3 ?hg (N := 45) ?hd (xs := ([a2] : List Int)) (inner := [.int .i64 a2]) (ok := fun _ => True) (okp := fun _ => True) ?hr ?hp (fun _ hk => hk) trivial (Below.refl _ _) (Nat.le_refl _) (by simp) ?_; (case hd => rfl); (case hg => rfl); (case hr => first | (go_simp; done) | (go_simp; rfl)); (case hp => exact (Reps.one (show Kd.M (Kd.int .i64) _ _ _ a2 [.int .i64 a2] from rfl) (Reps.none _ _)))
     intro v411 w31 ho32 hb hg_ hnew_
     clear hg_ hnew_
     (first | rw [← Ny410.out] at ho32 | (simp only [Int.reduceToNat] at ho32; rw [← Ny410.out] at ho32))
     have HO412 := Aside0.mk (Kd.R_lower (Kd.R_new' ho32 (Kd.R_lt (by (with_reducible repeat (first | apply Kd.R_alloc | apply Kd.R_drewN | apply Kd.R_drew)); exact HO408.out))) (below_size HB.out))
     replace HO408 := Aside0.mk (Kd.R_elder' (by (with_reducible repeat (first | apply Kd.R_alloc | apply Kd.R_drewN | apply Kd.R_drew)); exact HO408.out) (Kd.R_base ho32) hb)
     replace BK401 := Aside0.mk (blk_below BK401.out hb)
     replace BK402 := Aside0.mk (blk_below BK402.out hb)
     replace BK403 := Aside0.mk (blk_below BK403.out hb)
     replace BK404 := Aside0.mk (blk_below BK404.out hb)
     replace HB := Aside0.mk (below_step HB.out hb)
     clear hb ho32
     refine hK.out _ _ (and_24 BK402.out (and_11 BK401.out ⟨(blk_cell BK404.out 0).trans rfl, (blk_cell BK404.out 1).trans rfl, (blk_cell BK404.out 2).trans rfl, (blk_cell BK404.out 3).trans rfl⟩)) (fun hHeld => ?_)
     clear hK K
     refine norm_ (a' := ?_) ?_ ?_
     rotate_left
     ·show Act.put _ (some 45) _ = _
      simp only [Act.put, List.setIfInBounds_toArray, List.set_cons_zero, List.set_cons_succ, i64_w, i32_w]
      rfl
     exact norm_ (by simp only [putAll, Act.put, List.setIfInBounds_toArray, List.set_cons_zero, List.set_cons_succ]) (hCont (.slice Ao29 y406.length co29, v411) _ ⟨hHeld, (by (with_reducible repeat (first | apply Kd.R_alloc | apply Kd.R_drewN | apply Kd.R_drew)); exact Kd.R_mono HO408.out (fun _ hk => hk.2)), (by (with_reducible repeat (first | apply Kd.R_alloc | apply Kd.R_drewN | apply Kd.R_drew)); exact Kd.R_mono HO412.out (fun _ hk => hk.2)), (by (with_reducible repeat (first | refine blk_drewN ?_ _ | refine blk_drew ?_ | refine blk_alloc ?_ _)); exact BK401.out), (by (with_reducible repeat (first | refine blk_drewN ?_ _ | refine blk_drew ?_ | refine blk_alloc ?_ _)); exact BK402.out), (by (with_reducible repeat (first | refine blk_drewN ?_ _ | refine blk_drew ?_ | refine blk_alloc ?_ _)); exact BK403.out), (by (with_reducible repeat (first | refine blk_drewN ?_ _ | refine blk_drew ?_ | refine blk_alloc ?_ _)); exact BK404.out), (by repeat (first | (with_reducible first | exact HB.out | apply below_alloc | apply pw_below_drewN | apply below_drew1 | refine below_set ?_ GE401.out | refine below_set ?_ GE402.out | refine below_set ?_ GE403.out | refine below_set ?_ GE404.out) | exact HB.out))⟩)
    ·skip
     refine Kd.R_lit_step (Kd.int .i64) _ 3 ?hg (N := 45) ?hd (xs := ([a2] : List Int)) (inner := [.int .i64 a2]) (ok := fun _ => True) (okp := fun _ => True) ?hr ?hp (fun _ hk => hk) trivial (Below.refl _ _) (Nat.le_refl _) (by simp) ?_; (case hd => rfl); (case hg => rfl); (case hr => first | (go_simp; done) | (go_simp; rfl)); (case hp => exact (Reps.one (show Kd.M (Kd.int .i64) _ _ _ a2 [.int .i64 a2] from rfl) (Reps.none _ _)))
     intro v411 w29 ho30 hb hg_ hnew_
     clear hg_ hnew_
     (first | rw [← Ny410.out] at ho30 | (simp only [Int.reduceToNat] at ho30; rw [← Ny410.out] at ho30))
     have HO412 := Aside0.mk (Kd.R_lower (Kd.R_new' ho30 (Kd.R_lt (by (with_reducible repeat (first | apply Kd.R_alloc | apply Kd.R_drewN | apply Kd.R_drew)); exact HO408.out))) (below_size HB.out))
     replace HO408 := Aside0.mk (Kd.R_elder' (by (with_reducible repeat (first | apply Kd.R_alloc | apply Kd.R_drewN | apply Kd.R_drew)); exact HO408.out) (Kd.R_base ho30) hb)
     replace BK401 := Aside0.mk (blk_below BK401.out hb)
     replace BK402 := Aside0.mk (blk_below BK402.out hb)
     replace BK403 := Aside0.mk (blk_below BK403.out hb)
     replace BK404 := Aside0.mk (blk_below BK404.out hb)
     replace HB := Aside0.mk (below_step HB.out hb)
     clear hb ho30
     obtain ⟨Ao31, co31, eo31⟩ := Kd.R_slice HO408.out
     (first | subst eo31 | (injection eo31 with f1_ f2_ f3_; have f4_ := f1_.symm; have f5_ := f3_.symm; clear f1_ f2_ f3_; subst f4_; subst f5_))
     refine hK.out _ _ (and_24 BK402.out (and_11 BK401.out ⟨(blk_cell BK404.out 0).trans rfl, (blk_cell BK404.out 1).trans rfl, (blk_cell BK404.out 2).trans rfl, (blk_cell BK404.out 3).trans rfl⟩)) (fun hHeld => ?_)
     clear hK K
     refine norm_ (a' := ?_) ?_ ?_
     rotate_left
     ·show Act.put _ (some 45) _ = _
      simp only [Act.put, List.setIfInBounds_toArray, List.set_cons_zero, List.set_cons_succ, i64_w, i32_w]
      rfl
     refine one_ (i := 7) (N := some 39) #[true, true, true, true, true, true, true, true, true, true, true, true, true, true, false, true, false, false, false, false] rfl rfl (one_of HT_.out (by kernel_rfl)) (by decide) (fun K hK => ?_)
     refine goes_ Try.func23 (by kernel_rfl) rfl #[.string a1_11, .int .i64 (l0_10.length : Int), .slice Ao31 y406.length co31] (by rfl) rfl rfl (by (try simp only [List.map_toArray, List.map_cons, List.map_nil]); first | done | rfl) ?_
     with_reducible refine (gate_Mark.calls k a1_11 (l0_10.length : Int) _ _ y406 t409 _ ?side1 ?side2 A7.out).mono ?_
     (case side1 => exact (Kd.R_reads' HO408.out).2.2)
     (case side2 => exact (Kd.R_reads' HO408.out).2.1)
     rintro e w32 ⟨rfl, hb⟩
     refine ⟨_, rfl, ?_⟩
     replace HO408 := Aside0.mk (Kd.R_below HO408.out hb)
     replace HO412 := Aside0.mk (Kd.R_below HO412.out hb)
     replace BK401 := Aside0.mk (blk_below BK401.out hb)
     replace BK402 := Aside0.mk (blk_below BK402.out hb)
     replace BK403 := Aside0.mk (blk_below BK403.out hb)
     replace BK404 := Aside0.mk (blk_below BK404.out hb)
     replace HB := Aside0.mk (below_step HB.out hb)
     (try clear hb)
     (try clear hb2)
     (try clear hk)
     (try clear hi)
     refine hK.out _ _ (and_24 BK402.out (and_11 BK401.out ⟨(blk_cell BK404.out 0).trans rfl, (blk_cell BK404.out 1).trans rfl, (blk_cell BK404.out 2).trans rfl, (blk_cell BK404.out 3).trans rfl⟩)) (fun hHeld => ?_)
     clear hK K
     refine norm_ (a' := ?_) ?_ ?_
     rotate_left
     ·show Act.put _ (some 39) _ = _
      simp only [Act.put, List.setIfInBounds_toArray, List.set_cons_zero, List.set_cons_succ, i64_w, i32_w]
      rfl
     exact norm_ (by simp only [putAll, Act.put, List.setIfInBounds_toArray, List.set_cons_zero, List.set_cons_succ]) (hCont (.slice Ao31 y406.length co31, v411) _ ⟨hHeld, (by (with_reducible repeat (first | apply Kd.R_alloc | apply Kd.R_drewN | apply Kd.R_drew)); exact Kd.R_mono HO408.out (fun _ hk => hk.2)), (by (with_reducible repeat (first | apply Kd.R_alloc | apply Kd.R_drewN | apply Kd.R_drew)); exact Kd.R_mono HO412.out (fun _ hk => hk.2)), (by (with_reducible repeat (first | refine blk_drewN ?_ _ | refine blk_drew ?_ | refine blk_alloc ?_ _)); exact BK401.out), (by (with_reducible repeat (first | refine blk_drewN ?_ _ | refine blk_drew ?_ | refine blk_alloc ?_ _)); exact BK402.out), (by (with_reducible repeat (first | refine blk_drewN ?_ _ | refine blk_drew ?_ | refine blk_alloc ?_ _)); exact BK403.out), (by (with_reducible repeat (first | refine blk_drewN ?_ _ | refine blk_drew ?_ | refine blk_alloc ?_ _)); exact BK404.out), (by repeat (first | (with_reducible first | exact HB.out | apply below_alloc | apply pw_below_drewN | apply below_drew1 | refine below_set ?_ GE401.out | refine below_set ?_ GE402.out | refine below_set ?_ GE403.out | refine below_set ?_ GE404.out) | exact HB.out))⟩)
   ·skip
    refine Kd.R_lit_step (Kd.int .i64) _ 3 ?hg (N := 45) ?hd (xs := ([a2] : List Int)) (inner := [.int .i64 a2]) (ok := fun _ => True) (okp := fun _ => True) ?hr ?hp (fun _ hk => hk) trivial (Below.refl _ _) (Nat.le_refl _) (by simp) ?_; (case hd => rfl); (case hg => rfl); (case hr => first | (go_simp; done) | (go_simp; rfl)); (case hp => exact (Reps.one (show Kd.M (Kd.int .i64) _ _ _ a2 [.int .i64 a2] from rfl) (Reps.none _ _)))
    intro v411 w27 ho28 hb hg_ hnew_
    clear hg_ hnew_
    (first | rw [← Ny410.out] at ho28 | (simp only [Int.reduceToNat] at ho28; rw [← Ny410.out] at ho28))
    have HO412 := Aside0.mk (Kd.R_lower ho28 (below_size HB.out))
    replace BK401 := Aside0.mk (blk_below BK401.out hb)
    replace BK402 := Aside0.mk (blk_below BK402.out hb)
    replace BK403 := Aside0.mk (blk_below BK403.out hb)
    replace BK404 := Aside0.mk (blk_below BK404.out hb)
    replace HB := Aside0.mk (below_step HB.out hb)
    clear hb ho28
    refine hK.out _ _ (and_24 BK402.out (and_11 BK401.out ⟨(blk_cell BK404.out 0).trans rfl, (blk_cell BK404.out 1).trans rfl, (blk_cell BK404.out 2).trans rfl, (blk_cell BK404.out 3).trans rfl⟩)) (fun hHeld => ?_)
    clear hK K
    refine norm_ (a' := ?_) ?_ ?_
    rotate_left
    ·show Act.put _ (some 45) _ = _
     simp only [Act.put, List.setIfInBounds_toArray, List.set_cons_zero, List.set_cons_succ, i64_w, i32_w]
     rfl
    refine one_ (i := 6) (N := some 38) #[true, true, true, true, true, true, true, false, true, true, true, true, true, true, false, true, false, false, false, false] rfl rfl (one_of HT_.out (by kernel_rfl)) (by decide) (fun K hK => ?_)
    refine Kd.R_lit_step (Kd.int .i64) _ 3 ?hg (N := 38) ?hd (xs := ([wrap64 (a3_3 - 1)] : List Int)) (inner := [.int .i64 (wrap64 (a3_3 - 1))]) (ok := fun _ => True) (okp := fun _ => True) ?hr ?hp (fun _ hk => hk) trivial (Below.refl _ _) (Nat.le_refl _) (by simp) ?_; (case hd => rfl); (case hg => rfl); (case hr => first | (go_simp; done) | (go_simp; rfl)); (case hp => exact (Reps.one (show Kd.M (Kd.int .i64) _ _ _ (wrap64 (a3_3 - 1)) [.int .i64 (wrap64 (a3_3 - 1))] from rfl) (Reps.none _ _)))
    intro v407 w29 ho30 hb hg_ hnew_
    clear hg_ hnew_
    (first | rw [← Ny406.out] at ho30 | (simp only [Int.reduceToNat] at ho30; rw [← Ny406.out] at ho30))
    have HO408 := Aside0.mk (Kd.R_lower (Kd.R_new' ho30 (Kd.R_lt (by (with_reducible repeat (first | apply Kd.R_alloc | apply Kd.R_drewN | apply Kd.R_drew)); exact HO412.out))) (below_size HB.out))
    replace HO412 := Aside0.mk (Kd.R_elder' (by (with_reducible repeat (first | apply Kd.R_alloc | apply Kd.R_drewN | apply Kd.R_drew)); exact HO412.out) (Kd.R_base ho30) hb)
    replace BK401 := Aside0.mk (blk_below BK401.out hb)
    replace BK402 := Aside0.mk (blk_below BK402.out hb)
    replace BK403 := Aside0.mk (blk_below BK403.out hb)
    replace BK404 := Aside0.mk (blk_below BK404.out hb)
    replace HB := Aside0.mk (below_step HB.out hb)
    clear hb ho30
    obtain ⟨Ao31, co31, eo31⟩ := Kd.R_slice HO408.out
    (first | subst eo31 | (injection eo31 with f1_ f2_ f3_; have f4_ := f1_.symm; have f5_ := f3_.symm; clear f1_ f2_ f3_; subst f4_; subst f5_))
    refine hK.out _ _ (and_24 BK402.out (and_11 BK401.out ⟨(blk_cell BK404.out 0).trans rfl, (blk_cell BK404.out 1).trans rfl, (blk_cell BK404.out 2).trans rfl, (blk_cell BK404.out 3).trans rfl⟩)) (fun hHeld => ?_)
    clear hK K
    refine norm_ (a' := ?_) ?_ ?_
    rotate_left
    ·show Act.put _ (some 38) _ = _
     simp only [Act.put, List.setIfInBounds_toArray, List.set_cons_zero, List.set_cons_succ, i64_w, i32_w]
     rfl
    refine one_ (i := 7) (N := some 39) #[true, true, true, true, true, true, true, true, true, true, true, true, true, true, false, true, false, false, false, false] rfl rfl (one_of HT_.out (by kernel_rfl)) (by decide) (fun K hK => ?_)
    refine goes_ Try.func23 (by kernel_rfl) rfl #[.string a1_11, .int .i64 (l0_10.length : Int), .slice Ao31 y406.length co31] (by rfl) rfl rfl (by (try simp only [List.map_toArray, List.map_cons, List.map_nil]); first | done | rfl) ?_
    with_reducible refine (gate_Mark.calls k a1_11 (l0_10.length : Int) _ _ y406 t409 _ ?side1 ?side2 A7.out).mono ?_
    (case side1 => exact (Kd.R_reads' HO408.out).2.2)
    (case side2 => exact (Kd.R_reads' HO408.out).2.1)
    rintro e w32 ⟨rfl, hb⟩
    refine ⟨_, rfl, ?_⟩
    replace HO412 := Aside0.mk (Kd.R_below HO412.out hb)
    replace HO408 := Aside0.mk (Kd.R_below HO408.out hb)
    replace BK401 := Aside0.mk (blk_below BK401.out hb)
    replace BK402 := Aside0.mk (blk_below BK402.out hb)
    replace BK403 := Aside0.mk (blk_below BK403.out hb)
    replace BK404 := Aside0.mk (blk_below BK404.out hb)
    replace HB := Aside0.mk (below_step HB.out hb)
    (try clear hb)
    (try clear hb2)
    (try clear hk)
    (try clear hi)
    refine hK.out _ _ (and_24 BK402.out (and_11 BK401.out ⟨(blk_cell BK404.out 0).trans rfl, (blk_cell BK404.out 1).trans rfl, (blk_cell BK404.out 2).trans rfl, (blk_cell BK404.out 3).trans rfl⟩)) (fun hHeld => ?_)
    clear hK K
    refine norm_ (a' := ?_) ?_ ?_
    rotate_left
    ·show Act.put _ (some 39) _ = _
     simp only [Act.put, List.setIfInBounds_toArray, List.set_cons_zero, List.set_cons_succ, i64_w, i32_w]
     rfl
    exact norm_ (by simp only [putAll, Act.put, List.setIfInBounds_toArray, List.set_cons_zero, List.set_cons_succ]) (hCont (.slice Ao31 y406.length co31, v411) _ ⟨hHeld, (by (with_reducible repeat (first | apply Kd.R_alloc | apply Kd.R_drewN | apply Kd.R_drew)); exact Kd.R_mono HO408.out (fun _ hk => hk.2)), (by (with_reducible repeat (first | apply Kd.R_alloc | apply Kd.R_drewN | apply Kd.R_drew)); exact Kd.R_mono HO412.out (fun _ hk => hk.2)), (by (with_reducible repeat (first | refine blk_drewN ?_ _ | refine blk_drew ?_ | refine blk_alloc ?_ _)); exact BK401.out), (by (with_reducible repeat (first | refine blk_drewN ?_ _ | refine blk_drew ?_ | refine blk_alloc ?_ _)); exact BK402.out), (by (with_reducible repeat (first | refine blk_drewN ?_ _ | refine blk_drew ?_ | refine blk_alloc ?_ _)); exact BK403.out), (by (with_reducible repeat (first | refine blk_drewN ?_ _ | refine blk_drew ?_ | refine blk_alloc ?_ _)); exact BK404.out), (by repeat (first | (with_reducible first | exact HB.out | apply below_alloc | apply pw_below_drewN | apply below_drew1 | refine below_set ?_ GE401.out | refine below_set ?_ GE402.out | refine below_set ?_ GE403.out | refine below_set ?_ GE404.out) | exact HB.out))⟩)
  rintro ⟨v407, v411⟩ w33 ⟨hS_, h0_, h1_, h2_, h3_, h4_, h5_, h6_⟩
  have n0_ : Aside0 (Kd.R (Kd.int .i64) 3 w33 w.heap.size (fun k_ => some k_ ≠ (v411 : Value).ownBlock) v407 y406) := ⟨h0_⟩
  have n1_ : Aside0 (Kd.R (Kd.int .i64) 3 w33 w.heap.size (fun k_ => some k_ ≠ (v407 : Value).ownBlock) v411 y410) := ⟨h1_⟩
  have n2_ : Aside0 (w33.heap[gb401]? = some (.cells #[.int .i64 a0_0, .int .i64 a0_1, .int .i64 a0_2, .int .i64 a0_3, .int .i64 a0_4, .int .i64 a0_5, .int .i64 a0_6, .int .i64 a0_7, .int .i64 a0_8, .int .i64 a0_9, .slice A0_10 l0_10.length c0_10] 24 (0, 0))) := ⟨h2_⟩
  have n3_ : Aside0 (w33.heap[gb402]? = some (.cells #[.int .i64 a1_0, .int .i64 a1_1, .int .i64 a1_2, .string a1_3, .int .i64 a1_4, .string a1_5, .string a1_6, .int .i64 a1_7, .int .i64 a1_8, .string a1_9, .string a1_10, .string a1_11, .string a1_12, .string a1_13, .string a1_14, .slice A1_15 l1_15.length c1_15, .slice A1_16 l1_16.length c1_16, .slice A1_17 l1_17.length c1_17, .int .i64 a1_18, .int .i64 a1_19, .int .i64 a1_20, .int .i64 a1_21, .int .i64 a1_22, .int .i64 a1_23] 30 (0, 0))) := ⟨h3_⟩
  have n4_ : Aside0 (w33.heap[gb403]? = some (.cells #[.string a3_0, .int .i64 a3_1, .string a3_2, .int .i64 a3_3, .int .i64 a3_4, .string a3_5] 32 (0, 0))) := ⟨h4_⟩
  have n5_ : Aside0 (w33.heap[gb404]? = some (.cells #[.int .i64 a2, .int .i64 (wrap64 (a3_3 - 1)), .int .i64 a3_4, .string a3_5] 35 (0, 0))) := ⟨h5_⟩
  have n6_ : Aside0 (Below w.heap.size w w33) := ⟨h6_⟩
  clear BK401
  clear BK402
  clear BK403
  clear BK404
  clear HB
  clear h0_ h1_ h2_ h3_ h4_ h5_ h6_
  have HO408 := n0_
  have HO412 := n1_
  have BK401 := n2_
  have BK402 := n3_
  have BK403 := n4_
  have BK404 := n5_
  have HB := n6_
  clear n0_ n1_ n2_ n3_ n4_ n5_ n6_
  have hHeld : w33.cell? ⟨gb402, 0, none⟩ = some (.int .i64 a1_0) ∧ w33.cell? ⟨gb402, 1, none⟩ = some (.int .i64 a1_1) ∧ w33.cell? ⟨gb402, 2, none⟩ = some (.int .i64 a1_2) ∧ w33.cell? ⟨gb402, 3, none⟩ = some (.string a1_3) ∧ w33.cell? ⟨gb402, 4, none⟩ = some (.int .i64 a1_4) ∧ w33.cell? ⟨gb402, 5, none⟩ = some (.string a1_5) ∧ w33.cell? ⟨gb402, 6, none⟩ = some (.string a1_6) ∧ w33.cell? ⟨gb402, 7, none⟩ = some (.int .i64 a1_7) ∧ w33.cell? ⟨gb402, 8, none⟩ = some (.int .i64 a1_8) ∧ w33.cell? ⟨gb402, 9, none⟩ = some (.string a1_9) ∧ w33.cell? ⟨gb402, 10, none⟩ = some (.string a1_10) ∧ w33.cell? ⟨gb402, 11, none⟩ = some (.string a1_11) ∧ w33.cell? ⟨gb402, 12, none⟩ = some (.string a1_12) ∧ w33.cell? ⟨gb402, 13, none⟩ = some (.string a1_13) ∧ w33.cell? ⟨gb402, 14, none⟩ = some (.string a1_14) ∧ w33.cell? ⟨gb402, 15, none⟩ = some (.slice A1_15 l1_15.length c1_15) ∧ w33.cell? ⟨gb402, 16, none⟩ = some (.slice A1_16 l1_16.length c1_16) ∧ w33.cell? ⟨gb402, 17, none⟩ = some (.slice A1_17 l1_17.length c1_17) ∧ w33.cell? ⟨gb402, 18, none⟩ = some (.int .i64 a1_18) ∧ w33.cell? ⟨gb402, 19, none⟩ = some (.int .i64 a1_19) ∧ w33.cell? ⟨gb402, 20, none⟩ = some (.int .i64 a1_20) ∧ w33.cell? ⟨gb402, 21, none⟩ = some (.int .i64 a1_21) ∧ w33.cell? ⟨gb402, 22, none⟩ = some (.int .i64 a1_22) ∧ w33.cell? ⟨gb402, 23, none⟩ = some (.int .i64 a1_23) ∧ w33.cell? ⟨gb401, 0, none⟩ = some (.int .i64 a0_0) ∧ w33.cell? ⟨gb401, 1, none⟩ = some (.int .i64 a0_1) ∧ w33.cell? ⟨gb401, 2, none⟩ = some (.int .i64 a0_2) ∧ w33.cell? ⟨gb401, 3, none⟩ = some (.int .i64 a0_3) ∧ w33.cell? ⟨gb401, 4, none⟩ = some (.int .i64 a0_4) ∧ w33.cell? ⟨gb401, 5, none⟩ = some (.int .i64 a0_5) ∧ w33.cell? ⟨gb401, 6, none⟩ = some (.int .i64 a0_6) ∧ w33.cell? ⟨gb401, 7, none⟩ = some (.int .i64 a0_7) ∧ w33.cell? ⟨gb401, 8, none⟩ = some (.int .i64 a0_8) ∧ w33.cell? ⟨gb401, 9, none⟩ = some (.int .i64 a0_9) ∧ w33.cell? ⟨gb401, 10, none⟩ = some (.slice A0_10 l0_10.length c0_10) ∧ w33.cell? ⟨gb404, 0, none⟩ = some (.int .i64 a2) ∧ w33.cell? ⟨gb404, 1, none⟩ = some (.int .i64 (wrap64 (a3_3 - 1))) ∧ w33.cell? ⟨gb404, 2, none⟩ = some (.int .i64 a3_4) ∧ w33.cell? ⟨gb404, 3, none⟩ = some (.string a3_5) := hS_
  obtain ⟨Ao34, co34, eo34⟩ := Kd.R_slice HO412.out
  (first | subst eo34 | (injection eo34 with f1_ f2_ f3_; have f4_ := f1_.symm; have f5_ := f3_.symm; clear f1_ f2_ f3_; subst f4_; subst f5_))
  refine norm_ (a' := ?_) ?_ ?_
  rotate_left
  ·simp only [putAll, Act.put, List.setIfInBounds_toArray, List.set_cons_zero, List.set_cons_succ]
   rfl
  refine one_ (i := 14) (N := some 46) #[true, true, true, true, true, true, true, true, true, true, true, true, true, true, true, true, false, false, false, false] rfl rfl (one_of HT_.out (by kernel_rfl)) (by decide) (fun K hK => ?_)
  refine goes_ Try.func23 (by kernel_rfl) rfl #[.string a1_10, .int .i64 a0_0, .slice Ao34 y410.length co34] (by rfl) rfl rfl (by (try simp only [List.map_toArray, List.map_cons, List.map_nil]); first | done | rfl) ?_
  with_reducible refine (gate_Mark.calls k a1_10 a0_0 _ _ y410 t413 _ ?side1 ?side2 A8.out).mono ?_
  (case side1 => exact (Kd.R_reads' HO412.out).2.2)
  (case side2 => exact (Kd.R_reads' HO412.out).2.1)
  rintro e w35 ⟨rfl, hb⟩
  refine ⟨_, rfl, ?_⟩
  replace HO408 := Aside0.mk (Kd.R_below HO408.out hb)
  replace HO412 := Aside0.mk (Kd.R_below HO412.out hb)
  replace BK401 := Aside0.mk (blk_below BK401.out hb)
  replace BK402 := Aside0.mk (blk_below BK402.out hb)
  replace BK403 := Aside0.mk (blk_below BK403.out hb)
  replace BK404 := Aside0.mk (blk_below BK404.out hb)
  replace HB := Aside0.mk (below_step HB.out hb)
  (try clear hb)
  (try clear hb2)
  (try clear hk)
  (try clear hi)
  refine hK.out _ _ (and_24 BK402.out (and_11 BK401.out ⟨(blk_cell BK404.out 0).trans rfl, (blk_cell BK404.out 1).trans rfl, (blk_cell BK404.out 2).trans rfl, (blk_cell BK404.out 3).trans rfl⟩)) (fun hHeld => ?_)
  clear hK K
  refine norm_ (a' := ?_) ?_ ?_
  rotate_left
  ·show Act.put _ (some 46) _ = _
   simp only [Act.put, List.setIfInBounds_toArray, List.set_cons_zero, List.set_cons_succ, i64_w, i32_w]
   rfl
  refine pure_ (i := 16) (N := some 8) (v := ?_) (a' := ?_) #[true, true, true, true, true, true, true, true, true, true, true, true, true, true, true, true, true, false, false, false] rfl rfl (any_of HT_.out (by kernel_rfl)) (fun _ _ _ h => h) (Or.inl ⟨by rfl, ?_⟩) ?_ ?_
  rotate_left
  ·intro w'
   go_simp
   with_reducible rfl
  rotate_left
  ·simp only [Act.put, List.setIfInBounds_toArray, List.set_cons_zero, List.set_cons_succ, i64_w, i32_w]
   rfl
  refine pure_ (i := 17) (N := some 9) (v := ?_) (a' := ?_) #[true, true, true, true, true, true, true, true, true, true, true, true, true, true, true, true, true, true, false, false] rfl rfl (any_of HT_.out (by kernel_rfl)) (fun _ _ _ h => h) (Or.inl ⟨by rfl, ?_⟩) ?_ ?_
  rotate_left
  ·intro w'
   go_simp
   with_reducible rfl
  rotate_left
  ·simp only [Act.put, List.setIfInBounds_toArray, List.set_cons_zero, List.set_cons_succ, i64_w, i32_w]
   rfl
  refine last_ (i := 18) (N := none) #[true, true, true, true, true, true, true, true, true, true, true, true, true, true, true, true, true, true, true, false] rfl rfl (one_of HT_.out (by kernel_rfl)) (by decide) (fun K hK => ?_)
  have hs36 : w35.cell? ⟨gb404, 0, none⟩ = some (.int .i64 a2) := (blk_cell BK404.out 0).trans rfl
  have hfs36 := blk_frozen BK404.out 0
  have hns36_0 := NB401_404.out
  have hns36_1 := NB402_404.out
  have hns36_2 := NB403_404.out
  have hms36_0 := NB404_401.out
  have hms36_1 := NB404_402.out
  have hms36_2 := NB404_403.out
  have hs37 : w35.cell? ⟨gb404, 1, none⟩ = some (.int .i64 (wrap64 (a3_3 - 1))) := (blk_cell BK404.out 1).trans rfl
  have hfs37 := blk_frozen BK404.out 1
  have hns37_0 := NB401_404.out
  have hns37_1 := NB402_404.out
  have hns37_2 := NB403_404.out
  have hms37_0 := NB404_401.out
  have hms37_1 := NB404_402.out
  have hms37_2 := NB404_403.out
  have hs38 : w35.cell? ⟨gb404, 2, none⟩ = some (.int .i64 a3_4) := (blk_cell BK404.out 2).trans rfl
  have hfs38 := blk_frozen BK404.out 2
  have hns38_0 := NB401_404.out
  have hns38_1 := NB402_404.out
  have hns38_2 := NB403_404.out
  have hms38_0 := NB404_401.out
  have hms38_1 := NB404_402.out
  have hms38_2 := NB404_403.out
  have hs39 : w35.cell? ⟨gb404, 3, none⟩ = some (.string a3_5) := (blk_cell BK404.out 3).trans rfl
  have hfs39 := blk_frozen BK404.out 3
  have hns39_0 := NB401_404.out
  have hns39_1 := NB402_404.out
  have hns39_2 := NB403_404.out
  have hms39_0 := NB404_401.out
  have hms39_1 := NB404_402.out
  have hms39_2 := NB404_403.out
  refine skip_ (w1 := ?_) (by rfl) rfl ?_ ?_
  rotate_left
  ·go_simp
   rfl
  refine hK.out _ _ ?_
  clear hK K
  refine pure_ (i := 19) (N := some 11) (v := ?_) (a' := ?_) #[true, true, true, true, true, true, true, true, true, true, true, true, true, true, true, true, true, true, true, true] rfl rfl (any_of HT_.out (by kernel_rfl)) (fun _ _ _ h => h) (Or.inl ⟨by rfl, ?_⟩) ?_ ?_
  rotate_left
  ·intro w'
   go_simp
   with_reducible rfl
  rotate_left
  ·simp only [Act.put, List.setIfInBounds_toArray, List.set_cons_zero, List.set_cons_succ, i64_w, i32_w]
   rfl
  refine done_ (done_of HT_.out (by kernel_rfl)) ?_
  try go_wp2
  refine bodyPost_ret (results_list (rs := [.tmp 8, .tmp 9, .cell 10 35, .tmp 11]) rfl (by simp) (.tmp (.tmp (.cell gb404 35 #[.int .i64 a2, .int .i64 (wrap64 (a3_3 - 1)), .int .i64 a3_4, .string a3_5] (0, 0) _ rfl (by (with_reducible repeat (first | refine blk_drewN ?_ _ | refine blk_drew ?_ | refine blk_alloc ?_ _)); refine blk_put (cs := #[.int .i64 a2, .int .i64 (wrap64 (a3_3 - 1)), .int .i64 a3_4, .string a3_5]) ?_ 3 _ rfl; (with_reducible repeat (first | refine blk_drewN ?_ _ | refine blk_drew ?_ | refine blk_alloc ?_ _)); refine blk_put (cs := #[.int .i64 a2, .int .i64 (wrap64 (a3_3 - 1)), .int .i64 a3_4, .string a3_5]) ?_ 2 _ rfl; (with_reducible repeat (first | refine blk_drewN ?_ _ | refine blk_drew ?_ | refine blk_alloc ?_ _)); refine blk_put (cs := #[.int .i64 a2, .int .i64 (wrap64 (a3_3 - 1)), .int .i64 a3_4, .string a3_5]) ?_ 1 _ rfl; (with_reducible repeat (first | refine blk_drewN ?_ _ | refine blk_drew ?_ | refine blk_alloc ?_ _)); refine blk_put (cs := #[.int .i64 a2, .int .i64 (wrap64 (a3_3 - 1)), .int .i64 a3_4, .string a3_5]) ?_ 0 _ rfl; (with_reducible repeat (first | refine blk_drewN ?_ _ | refine blk_drew ?_ | refine blk_alloc ?_ _)); exact BK404.out) Try.underlying35 rfl (by kernel_rfl) (.tmp .nil))))) rfl ?_
  exact ⟨by first | rfl | (simp [*] <;> rfl), by repeat (first | (with_reducible first | exact HB.out | apply below_alloc | apply pw_below_drewN | apply below_drew1 | refine below_set ?_ GE401.out | refine below_set ?_ GE402.out | refine below_set ?_ GE403.out | refine below_set ?_ GE404.out) | exact HB.out)⟩
 ·rw [if_neg c6] at H
  have c6b0 : (t405 == 0) = false := beq_eq_false_iff_ne.mpr c6
  have c6b1 : (t405 != 0) = true := bne_iff_ne.mpr c6
  simp only [Option.some.injEq, Prod.mk.injEq] at H
  obtain ⟨rfl, rfl, rfl, rfl, rfl, rfl, rfl⟩ := H
  go_enter Try.func8, Try.ntmps8
  go_wp2_with (first | ((with_reducible refine gate_load (t := 30) (x := .tmp 5) rfl ?_); refine load_row_g (cs := ?_) ?hw 30 (.tmp 5) ?h2 gb402 ?hx 30 (fr := (0, 0)) (d := ?_) ?hg ?h3 ?h4 ?hi ?_; (case hw => first | (with_reducible rfl) | (go_simp; done) | rfl); (case h2 => rfl); (case hx => first | (with_reducible rfl) | (go_simp; done) | rfl); (case hg => (with_reducible repeat (first | refine blk_drewN ?_ _ | refine blk_drew ?_ | refine blk_alloc ?_ _)); with_reducible exact BK402.out); (case h3 => exact Try.underlying30); (case h4 => rfl); (case hi => kernel_rfl)) | ((with_reducible refine gate_dst (N := 4) rfl ?_); refine box_event ?hg (N := 4) ?hd (cs := #[.int .i64 a0_0, .int .i64 a0_1, .int .i64 a0_2, .int .i64 a0_3, .int .i64 a0_4, .int .i64 a0_5, .int .i64 a0_6, .int .i64 a0_7, .int .i64 a0_8, .int .i64 a0_9, .slice A0_10 l0_10.length c0_10]) (t := 24) ?hr ?_; (case hd => rfl); (case hg => rfl); (case hr => first | (go_simp; done) | (go_simp; rfl)); intro gb401 hg w40 hbox hb; have BK401 := Aside0.mk (hbox); have GW401 := Aside0.mk ((by rw [hg]; exact (below_size HB.out) : w.heap.size ≤ gb401)); have GE401 := GW401; replace HB := Aside0.mk (below_step HB.out hb); clear hb hbox hg) | ((with_reducible refine gate_dst (N := 5) rfl ?_); refine box_event ?hg (N := 5) ?hd (cs := #[.int .i64 a1_0, .int .i64 a1_1, .int .i64 a1_2, .string a1_3, .int .i64 a1_4, .string a1_5, .string a1_6, .int .i64 a1_7, .int .i64 a1_8, .string a1_9, .string a1_10, .string a1_11, .string a1_12, .string a1_13, .string a1_14, .slice A1_15 l1_15.length c1_15, .slice A1_16 l1_16.length c1_16, .slice A1_17 l1_17.length c1_17, .int .i64 a1_18, .int .i64 a1_19, .int .i64 a1_20, .int .i64 a1_21, .int .i64 a1_22, .int .i64 a1_23]) (t := 30) ?hr ?_; (case hd => rfl); (case hg => rfl); (case hr => first | (go_simp; done) | (go_simp; rfl)); intro gb402 hg w41 hbox hb; have BK402 := Aside0.mk (hbox); have GW402 := Aside0.mk ((by rw [hg]; exact (below_size HB.out) : w.heap.size ≤ gb402)); have GE402 := GW402; replace HB := Aside0.mk (below_step HB.out hb); have NB401_402 := Aside0.mk ((by rw [hg]; exact Nat.ne_of_lt (blk_lt BK401.out) : gb401 ≠ gb402)); have NB402_401 := Aside0.mk NB401_402.out.symm; replace BK401 := Aside0.mk (blk_below BK401.out hb); clear hb hbox hg) | ((with_reducible refine gate_dst (N := 7) rfl ?_); refine box_event ?hg (N := 7) ?hd (cs := #[.string a3_0, .int .i64 a3_1, .string a3_2, .int .i64 a3_3, .int .i64 a3_4, .string a3_5]) (t := 32) ?hr ?_; (case hd => rfl); (case hg => rfl); (case hr => first | (go_simp; done) | (go_simp; rfl)); intro gb403 hg w42 hbox hb; have BK403 := Aside0.mk (hbox); have GW403 := Aside0.mk ((by rw [hg]; exact (below_size HB.out) : w.heap.size ≤ gb403)); have GE403 := GW403; replace HB := Aside0.mk (below_step HB.out hb); have NB401_403 := Aside0.mk ((by rw [hg]; exact Nat.ne_of_lt (blk_lt BK401.out) : gb401 ≠ gb403)); have NB403_401 := Aside0.mk NB401_403.out.symm; replace BK401 := Aside0.mk (blk_below BK401.out hb); have NB402_403 := Aside0.mk ((by rw [hg]; exact Nat.ne_of_lt (blk_lt BK402.out) : gb402 ≠ gb403)); have NB403_402 := Aside0.mk NB402_403.out.symm; replace BK402 := Aside0.mk (blk_below BK402.out hb); clear hb hbox hg) | ((with_reducible refine gate_dst (N := 10) rfl ?_); refine box_event ?hg (N := 10) ?hd (cs := #[.int .i64 0, .int .i64 0, .int .i64 0, .string (⟨#[]⟩ : ByteArray)]) (t := 35) ?hr ?_; (case hd => rfl); (case hg => rfl); (case hr => first | (go_simp; done) | (go_simp; rfl)); intro gb404 hg w43 hbox hb; have BK404 := Aside0.mk (hbox); have GW404 := Aside0.mk ((by rw [hg]; exact (below_size HB.out) : w.heap.size ≤ gb404)); have GE404 := GW404; replace HB := Aside0.mk (below_step HB.out hb); have NB401_404 := Aside0.mk ((by rw [hg]; exact Nat.ne_of_lt (blk_lt BK401.out) : gb401 ≠ gb404)); have NB404_401 := Aside0.mk NB401_404.out.symm; replace BK401 := Aside0.mk (blk_below BK401.out hb); have NB402_404 := Aside0.mk ((by rw [hg]; exact Nat.ne_of_lt (blk_lt BK402.out) : gb402 ≠ gb404)); have NB404_402 := Aside0.mk NB402_404.out.symm; replace BK402 := Aside0.mk (blk_below BK402.out hb); have NB403_404 := Aside0.mk ((by rw [hg]; exact Nat.ne_of_lt (blk_lt BK403.out) : gb403 ≠ gb404)); have NB404_403 := Aside0.mk NB403_404.out.symm; replace BK403 := Aside0.mk (blk_below BK403.out hb); clear hb hbox hg; have hnb44 := NB401_402.out; have hnc44 := NB402_401.out; have hnb45 := NB401_403.out; have hnc45 := NB403_401.out; have hnb46 := NB401_404.out; have hnc46 := NB404_401.out; obtain ⟨hcz47_0, hcz47_1, hcz47_2, hcz47_3, hcz47_4, hcz47_5, hcz47_6, hcz47_7, hcz47_8, hcz47_9, hcz47_10⟩ := cells_11 BK401.out; obtain ⟨hfz47_0, hfz47_1, hfz47_2, hfz47_3, hfz47_4, hfz47_5, hfz47_6, hfz47_7, hfz47_8, hfz47_9, hfz47_10⟩ := frozen_11 BK401.out; have hnb48 := NB402_403.out; have hnc48 := NB403_402.out; have hnb49 := NB402_404.out; have hnc49 := NB404_402.out; have hall3_ := cells_24 BK402.out; have hall4_ := frozen_24 BK402.out; have hnb51 := NB403_404.out; have hnc51 := NB404_403.out; obtain ⟨hcz52_0, hcz52_1, hcz52_2, hcz52_3, hcz52_4, hcz52_5⟩ := cells_6 BK403.out; obtain ⟨hfz52_0, hfz52_1, hfz52_2, hfz52_3, hfz52_4, hfz52_5⟩ := frozen_6 BK403.out) | ((with_reducible refine gate_callee (f := 10) rfl ?_); refine goesL_ (some 17) rfl rfl Try.func10 (by kernel_rfl) rfl #[.agg #[.int .i64 a0_0, .int .i64 a0_1, .int .i64 a0_2, .int .i64 a0_3, .int .i64 a0_4, .int .i64 a0_5, .int .i64 a0_6, .int .i64 a0_7, .int .i64 a0_8, .int .i64 a0_9, .slice A0_10 l0_10.length c0_10], .agg #[.int .i64 a1_0, .int .i64 a1_1, .int .i64 a1_2, .string a1_3, .int .i64 a1_4, .string a1_5, .string a1_6, .int .i64 a1_7, .int .i64 a1_8, .string a1_9, .string a1_10, .string a1_11, .string a1_12, .string a1_13, .string a1_14, .slice A1_15 l1_15.length c1_15, .slice A1_16 l1_16.length c1_16, .slice A1_17 l1_17.length c1_17, .int .i64 a1_18, .int .i64 a1_19, .int .i64 a1_20, .int .i64 a1_21, .int .i64 a1_22, .int .i64 a1_23], .int .i64 a2, .agg #[.string a3_0, .int .i64 a3_1, .string a3_2, .int .i64 a3_3, .int .i64 a3_4, .string a3_5]] rfl (by (try simp only [List.map_toArray, List.map_cons, List.map_nil]); first | done | rfl) ?_; (with_reducible refine (accept_Check.calls k a0_0 a0_1 a0_2 a0_3 a0_4 a0_5 a0_6 a0_7 a0_8 a0_9 _ _ l0_10 a1_0 a1_1 a1_2 a1_3 a1_4 a1_5 a1_6 a1_7 a1_8 a1_9 a1_10 a1_11 a1_12 a1_13 a1_14 _ _ l1_15 _ _ l1_16 _ _ l1_17 a1_18 a1_19 a1_20 a1_21 a1_22 a1_23 a2 a3_0 a3_1 a3_2 a3_3 a3_4 a3_5 t405 _ ?side1 ?side2 ?side3 ?side4 ?side5 ?side6 ?side7 ?side8 A5.out).mono ?_); (case side1 => exact (Kd.C_below HR0_10.out HB.out)); (case side2 => exact HC0_10.out); (case side3 => exact (Kd.C_below HR1_15.out HB.out)); (case side4 => exact HC1_15.out); (case side5 => exact (Kd.C_below HR1_16.out HB.out)); (case side6 => exact HC1_16.out); (case side7 => exact (Kd.C_below HR1_17.out HB.out)); (case side8 => exact HC1_17.out); rintro e w53 ⟨rfl, hb⟩; refine ⟨_, rfl, ?_⟩; replace BK401 := Aside0.mk (blk_below BK401.out hb); replace BK402 := Aside0.mk (blk_below BK402.out hb); replace BK403 := Aside0.mk (blk_below BK403.out hb); replace BK404 := Aside0.mk (blk_below BK404.out hb); replace HB := Aside0.mk (below_step HB.out hb); (try clear hb); obtain ⟨hcz54_0, hcz54_1, hcz54_2, hcz54_3⟩ := cells_4 BK404.out; obtain ⟨hfz54_0, hfz54_1, hfz54_2, hfz54_3⟩ := frozen_4 BK404.out))
  refine bodyPost_ret (results_list (rs := [.tmp 8, .tmp 9, .cell 10 35, .tmp 11]) rfl (by simp) (.tmp (.tmp (.cell gb404 35 #[.int .i64 0, .int .i64 0, .int .i64 0, .string (⟨#[]⟩ : ByteArray)] (0, 0) _ rfl (by (with_reducible repeat (first | refine blk_drewN ?_ _ | refine blk_drew ?_ | refine blk_alloc ?_ _)); refine blk_put (cs := #[.int .i64 0, .int .i64 0, .int .i64 0, .string (⟨#[]⟩ : ByteArray)]) ?_ 3 _ rfl; (with_reducible repeat (first | refine blk_drewN ?_ _ | refine blk_drew ?_ | refine blk_alloc ?_ _)); refine blk_put (cs := #[.int .i64 0, .int .i64 0, .int .i64 0, .string (⟨#[]⟩ : ByteArray)]) ?_ 2 _ rfl; (with_reducible repeat (first | refine blk_drewN ?_ _ | refine blk_drew ?_ | refine blk_alloc ?_ _)); refine blk_put (cs := #[.int .i64 0, .int .i64 0, .int .i64 0, .string (⟨#[]⟩ : ByteArray)]) ?_ 1 _ rfl; (with_reducible repeat (first | refine blk_drewN ?_ _ | refine blk_drew ?_ | refine blk_alloc ?_ _)); refine blk_put (cs := #[.int .i64 0, .int .i64 0, .int .i64 0, .string (⟨#[]⟩ : ByteArray)]) ?_ 0 _ rfl; (with_reducible repeat (first | refine blk_drewN ?_ _ | refine blk_drew ?_ | refine blk_alloc ?_ _)); exact BK404.out) Try.underlying35 rfl (by kernel_rfl) (.tmp .nil))))) rfl ?_
  exact ⟨by first | rfl | (simp [*] <;> rfl), by repeat (first | (with_reducible first | exact HB.out | apply below_alloc | apply pw_below_drewN | apply below_drew1 | refine below_set ?_ GE401.out | refine below_set ?_ GE402.out | refine below_set ?_ GE403.out | refine below_set ?_ GE404.out) | exact HB.out)⟩
end Go.Proofs.Ytebflimijebbnaa.Gn
