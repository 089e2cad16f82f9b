import Derived.Test.YtdcknaoamjlaiaaZGateSendsGn0
import Derived.Test.YtdcknaoamjlaiaaZGateSendsGn3
import Derived.Test.YtdcknaoamjlaiaaZGateSendsGn14
import Derived.Test.YtdcknaoamjlaiaaZGateSendsGn58
import Derived.Test.YtdcknaoamjlaiaaZGateSendsGn73
namespace Go.Proofs.Ytdcknaoamjlaiaa.Gn
open Go.RowKit Go.Proofs.YtdcknaoamjlaiaaW.PrintWords Go.Proofs.YtdcknaoamjlaiaaW.PrintLast Go.Proofs.YtdcknaoamjlaiaaW.PrintMore
attribute [local go_sem] max2_int min2_int max_two min_two max_three min_three max_four min_four   -- for this text's walks alone
set_option linter.unusedVariables false
set_option linter.unusedSimpArgs false
def bellwetherref23_Send.f (k : Nat) (a0_0 a0_1 a0_2 a0_3 a0_4 a0_5 a0_6 a0_7 a0_8 a0_9 : Int) (l0_10 : List Int) (a1_0 a1_1 a1_2 : Int) (a1_3 : ByteArray) (a1_4 : Int) (a1_5 a1_6 : ByteArray) (a1_7 a1_8 : Int) (a1_9 a1_10 a1_11 a1_12 a1_13 a1_14 : ByteArray) (l1_15 : List (S140)) (l1_16 : List ByteArray) (l1_17 : List (S142)) (a1_18 a1_19 a1_20 a1_21 a1_22 a1_23 a2 : Int) (a3_0 : ByteArray) (a3_1 : Int) (a3_2 : ByteArray) (a3_3 a3_4 : Int) (a3_5 : ByteArray) : Option (ByteArray × Int × ByteArray × Int × Int × ByteArray × ByteArray × Int) := (bellwetherref23_Open.f k a0_0 a0_1 a0_2 a0_3 a0_4 a0_5 a0_6 a0_7 a0_8 a0_9 l0_10 a1_0 a1_1 a1_2 a1_3 a1_4 a1_5 a1_6 a1_7 a1_8 a1_9 a1_10 a1_11 a1_12 a1_13 a1_14 l1_15 l1_16 l1_17 a1_18 a1_19 a1_20 a1_21 a1_22 a1_23 a2).bind fun t667 => (if t667 < 0 then ((bellwetherref10_Strip.f a3_0 a3_1 a3_2 a3_3 a3_4 a3_5).bind fun bt668 => (some (bt668.1, bt668.2.1, bt668.2.2.1, bt668.2.2.2.1, bt668.2.2.2.2.1, bt668.2.2.2.2.2, a1_12, 0))) else ((bellwetherref10_Carry.f a3_0 a3_1 a3_2 a3_3 a3_4 a3_5 t667 a1_7 a1_14).bind fun bt674 => ((bellwetherref23_Mark.f k a1_12 (l0_10.length : Int) (([t667] : List Int))).bind fun t683 => (some (bt674.1, bt674.2.1, bt674.2.2.1, bt674.2.2.2.1, bt674.2.2.2.2.1, bt674.2.2.2.2.2, t683, wrap64 (t667 + 1))))))
def bellwetherref23_Send.T4 : Bool × List (List Nat × List Nat) := (true, [([], []), ([], []), ([], []), ([2], [2]), ([], []), ([4], [4]), ([0, 1, 3, 5], [0, 1, 3, 5]), ([], []), ([7], [7]), ([], []), ([9], [9]), ([10], [10]), ([], []), ([12], [12]), ([8, 11, 13, 6], [8, 11, 13]), ([], []), ([15], [15]), ([6, 14, 0, 1, 2, 3, 4, 5, 6], [6]), ([14, 17, 0, 1, 2, 3, 4, 5, 6, 7, 8, 9, 10, 11, 12, 13, 14, 17], [14]), ([16, 18, 0, 1, 2, 3, 4, 5, 6, 7, 8, 9, 10, 11, 12, 13, 14, 15, 16, 17, 18], [16])])
def bellwetherref23_Send.B4 : List Nat := [0, 0, 0, 4, 0, 16, 63, 0, 128, 0, 512, 1536, 0, 4096, 16383, 0, 32768, 32767, 163839, 524287]
theorem bellwetherref23_Send.tab4 : rtab .any (opsOf Try.f67 4) = bellwetherref23_Send.T4 := by kernel_rfl
theorem bellwetherref23_Send.bits4 : waitsOk bellwetherref23_Send.T4.2 bellwetherref23_Send.B4 = true := by kernel_rfl
set_option maxHeartbeats 8000000 in
set_option maxRecDepth 100000 in
theorem bellwetherref23_Send.calls (k : Nat) (a0_0 a0_1 a0_2 a0_3 a0_4 a0_5 a0_6 a0_7 a0_8 a0_9 : Int) (A0_10 : Option Addr) (c0_10 : Nat) (l0_10 : List Int) (a1_0 a1_1 a1_2 : Int) (a1_3 : ByteArray) (a1_4 : Int) (a1_5 a1_6 : ByteArray) (a1_7 a1_8 : Int) (a1_9 a1_10 a1_11 a1_12 a1_13 a1_14 : ByteArray) (A1_15 : Option Addr) (c1_15 : Nat) (l1_15 : List (S140)) (A1_16 : Option Addr) (c1_16 : Nat) (l1_16 : List ByteArray) (A1_17 : Option Addr) (c1_17 : Nat) (l1_17 : List (S142)) (a1_18 a1_19 a1_20 a1_21 a1_22 a1_23 a2 : Int) (a3_0 : ByteArray) (a3_1 : Int) (a3_2 : ByteArray) (a3_3 a3_4 : Int) (a3_5 r1 : ByteArray) (r2 : Int) (r3 : ByteArray) (r4 r5 : Int) (r6 r7 : ByteArray) (r8 : Int) (w : World) (hr0_10 : Kd.C (Kd.int .i64) w A0_10 l0_10.length l0_10) (hc0_10 : l0_10.length ≤ c0_10) (hr1_15 : Kd.C k140 w A1_15 l1_15.length l1_15) (hc1_15 : l1_15.length ≤ c1_15) (hr1_16 : Kd.C Kd.string w A1_16 l1_16.length l1_16) (hc1_16 : l1_16.length ≤ c1_16) (hr1_17 : Kd.C k142 w A1_17 l1_17.length l1_17) (hc1_17 : l1_17.length ≤ c1_17) (h : bellwetherref23_Send.f k a0_0 a0_1 a0_2 a0_3 a0_4 a0_5 a0_6 a0_7 a0_8 a0_9 l0_10 a1_0 a1_1 a1_2 a1_3 a1_4 a1_5 a1_6 a1_7 a1_8 a1_9 a1_10 a1_11 a1_12 a1_13 a1_14 l1_15 l1_16 l1_17 a1_18 a1_19 a1_20 a1_21 a1_22 a1_23 a2 a3_0 a3_1 a3_2 a3_3 a3_4 a3_5 = some (r1, r2, r3, r4, r5, r6, r7, r8)) :
  Calls Try.prog 67 #[.agg #[.int .i64 a0_0, .int .i64 a0_1, .int .i64 a0_2, .int .i64 a0_3, .int .i64 a0_4, .int .i64 a0_5, .int .i64 a0_6, .int .i64 a0_7, .int .i64 a0_8, .int .i64 a0_9, .slice A0_10 l0_10.length c0_10], .agg #[.int .i64 a1_0, .int .i64 a1_1, .int .i64 a1_2, .string a1_3, .int .i64 a1_4, .string a1_5, .string a1_6, .int .i64 a1_7, .int .i64 a1_8, .string a1_9, .string a1_10, .string a1_11, .string a1_12, .string a1_13, .string a1_14, .slice A1_15 l1_15.length c1_15, .slice A1_16 l1_16.length c1_16, .slice A1_17 l1_17.length c1_17, .int .i64 a1_18, .int .i64 a1_19, .int .i64 a1_20, .int .i64 a1_21, .int .i64 a1_22, .int .i64 a1_23], .int .i64 a2, .agg #[.string a3_0, .int .i64 a3_1, .string a3_2, .int .i64 a3_3, .int .i64 a3_4, .string a3_5]] w fun e w' => e = .returned (.tuple #[.agg #[.string r1, .int .i64 r2, .string r3, .int .i64 r4, .int .i64 r5, .string r6], .string r7, .int .i64 r8]) ∧ Below w.heap.size w w' := by
 have hu24 := Try.underlying24
 have hu76 := Try.underlying76
 have HR0_10 := Aside0.mk hr0_10
 have HC0_10 := Aside0.mk hc0_10
 clear hr0_10 hc0_10
 have HR1_15 := Aside0.mk hr1_15
 have HC1_15 := Aside0.mk hc1_15
 clear hr1_15 hc1_15
 have HR1_16 := Aside0.mk hr1_16
 have HC1_16 := Aside0.mk hc1_16
 clear hr1_16 hc1_16
 have HR1_17 := Aside0.mk hr1_17
 have HC1_17 := Aside0.mk hc1_17
 clear hr1_17 hc1_17
 have HB := Aside0.mk (Below.refl w.heap.size w)
 have H : ((bellwetherref23_Open.f k a0_0 a0_1 a0_2 a0_3 a0_4 a0_5 a0_6 a0_7 a0_8 a0_9 l0_10 a1_0 a1_1 a1_2 a1_3 a1_4 a1_5 a1_6 a1_7 a1_8 a1_9 a1_10 a1_11 a1_12 a1_13 a1_14 l1_15 l1_16 l1_17 a1_18 a1_19 a1_20 a1_21 a1_22 a1_23 a2).bind fun t667 => (if t667 < 0 then ((bellwetherref10_Strip.f a3_0 a3_1 a3_2 a3_3 a3_4 a3_5).bind fun bt668 => (some (bt668.1, bt668.2.1, bt668.2.2.1, bt668.2.2.2.1, bt668.2.2.2.2.1, bt668.2.2.2.2.2, a1_12, 0))) else ((bellwetherref10_Carry.f a3_0 a3_1 a3_2 a3_3 a3_4 a3_5 t667 a1_7 a1_14).bind fun bt674 => ((bellwetherref23_Mark.f k a1_12 (l0_10.length : Int) (([t667] : List Int))).bind fun t683 => (some (bt674.1, bt674.2.1, bt674.2.2.1, bt674.2.2.2.1, bt674.2.2.2.2.1, bt674.2.2.2.2.2, t683, wrap64 (t667 + 1))))))) = some (r1, r2, r3, r4, r5, r6, r7, r8) := h
 clear h
 replace H := Option.bind_eq_some_iff.mp H
 obtain ⟨t667, A50, H⟩ := H
 replace H : (if t667 < 0 then ((bellwetherref10_Strip.f a3_0 a3_1 a3_2 a3_3 a3_4 a3_5).bind fun bt668 => (some (bt668.1, bt668.2.1, bt668.2.2.1, bt668.2.2.2.1, bt668.2.2.2.2.1, bt668.2.2.2.2.2, a1_12, 0))) else ((bellwetherref10_Carry.f a3_0 a3_1 a3_2 a3_3 a3_4 a3_5 t667 a1_7 a1_14).bind fun bt674 => ((bellwetherref23_Mark.f k a1_12 (l0_10.length : Int) (([t667] : List Int))).bind fun t683 => (some (bt674.1, bt674.2.1, bt674.2.2.1, bt674.2.2.2.1, bt674.2.2.2.2.1, bt674.2.2.2.2.2, t683, wrap64 (t667 + 1)))))) = some (r1, r2, r3, r4, r5, r6, r7, r8) := H
 have A5 := Aside0.mk A50
 clear A50
 by_cases c6 : t667 < 0
 ·rw [if_pos c6] at H
  have c6b0 : decide (t667 < 0) = true := decide_eq_true c6
  clear c6
  replace H := Option.bind_eq_some_iff.mp H
  obtain ⟨⟨t668, t669, t670, t671, t672, t673⟩, A70, H⟩ := H
  replace H : (some (t668, t669, t670, t671, t672, t673, a1_12, 0)) = some (r1, r2, r3, r4, r5, r6, r7, r8) := H
  have A7 := Aside0.mk A70
  clear A70
  simp only [Option.some.injEq, Prod.mk.injEq] at H
  obtain ⟨rfl, rfl, rfl, rfl, rfl, rfl, rfl, rfl⟩ := H
  go_enter Try.func67, Try.ntmps67
  try go_wp2_with (first | ((with_reducible refine gate_load (t := 44) (x := .tmp 5) rfl ?_); refine load_row_g (cs := ?_) ?hw 44 (.tmp 5) ?h2 gb664 ?hx 44 (fr := (0, 0)) (d := ?_) ?hg ?h3 ?h4 ?hi ?_; (case hw => first | (with_reducible rfl) | (go_simp; done) | rfl); (case h2 => rfl); (case hx => first | (with_reducible rfl) | (go_simp; done) | rfl); (case hg => exact BK664.out); (case h3 => exact Try.underlying44); (case h4 => rfl); (case hi => kernel_rfl)) | ((with_reducible refine gate_dst (N := 4) rfl ?_); refine box_event ?hg (N := 4) ?hd (cs := #[.int .i64 a0_0, .int .i64 a0_1, .int .i64 a0_2, .int .i64 a0_3, .int .i64 a0_4, .int .i64 a0_5, .int .i64 a0_6, .int .i64 a0_7, .int .i64 a0_8, .int .i64 a0_9, .slice A0_10 l0_10.length c0_10]) (t := 24) ?hr ?_; (case hd => rfl); (case hg => rfl); (case hr => first | (go_simp; done) | (go_simp; rfl)); intro gb663 hg w8 hbox hb; have n0_ := Aside0.mk (below_step HB.out hb); have n1_ := Aside0.mk (hbox); have n2_ := Aside0.mk ((by rw [hg]; exact (below_size HB.out) : w.heap.size ≤ gb663)); have n3_ := Aside0.mk ((by rw [hg]; exact (below_size HB.out) : w.heap.size ≤ gb663)); clear HB; have HB := n0_; have BK663 := n1_; have GW663 := n2_; have GE663 := n3_; clear n0_ n1_ n2_ n3_; clear hb hbox hg) | ((with_reducible refine gate_dst (N := 5) rfl ?_); refine box_event ?hg (N := 5) ?hd (cs := #[.int .i64 a1_0, .int .i64 a1_1, .int .i64 a1_2, .string a1_3, .int .i64 a1_4, .string a1_5, .string a1_6, .int .i64 a1_7, .int .i64 a1_8, .string a1_9, .string a1_10, .string a1_11, .string a1_12, .string a1_13, .string a1_14, .slice A1_15 l1_15.length c1_15, .slice A1_16 l1_16.length c1_16, .slice A1_17 l1_17.length c1_17, .int .i64 a1_18, .int .i64 a1_19, .int .i64 a1_20, .int .i64 a1_21, .int .i64 a1_22, .int .i64 a1_23]) (t := 44) ?hr ?_; (case hd => rfl); (case hg => rfl); (case hr => first | (go_simp; done) | (go_simp; rfl)); intro gb664 hg w9 hbox hb; have n0_ := Aside0.mk (blk_below BK663.out hb); have n1_ := Aside0.mk (below_step HB.out hb); have n2_ := Aside0.mk (hbox); have n3_ := Aside0.mk ((by rw [hg]; exact (below_size HB.out) : w.heap.size ≤ gb664)); have n4_ := Aside0.mk ((by rw [hg]; exact (below_size HB.out) : w.heap.size ≤ gb664)); have n5_ := Aside0.mk ((by rw [hg]; exact Nat.ne_of_lt (blk_lt BK663.out) : gb663 ≠ gb664)); have n6_ := Aside0.mk ((by rw [hg]; exact Nat.ne_of_gt (blk_lt BK663.out) : gb664 ≠ gb663)); clear BK663; clear HB; have BK663 := n0_; have HB := n1_; have BK664 := n2_; have GW664 := n3_; have GE664 := n4_; have NB663_664 := n5_; have NB664_663 := n6_; clear n0_ n1_ n2_ n3_ n4_ n5_ n6_; clear hb hbox hg) | ((with_reducible refine gate_dst (N := 7) rfl ?_); refine box_event ?hg (N := 7) ?hd (cs := #[.string a3_0, .int .i64 a3_1, .string a3_2, .int .i64 a3_3, .int .i64 a3_4, .string a3_5]) (t := 76) ?hr ?_; (case hd => rfl); (case hg => rfl); (case hr => first | (go_simp; done) | (go_simp; rfl)); intro gb665 hg w10 hbox hb; have n0_ := Aside0.mk (blk_below BK663.out hb); have n1_ := Aside0.mk (blk_below BK664.out hb); have n2_ := Aside0.mk (below_step HB.out hb); have n3_ := Aside0.mk (hbox); have n4_ := Aside0.mk ((by rw [hg]; exact (below_size HB.out) : w.heap.size ≤ gb665)); have n5_ := Aside0.mk ((by rw [hg]; exact (below_size HB.out) : w.heap.size ≤ gb665)); have n6_ := Aside0.mk ((by rw [hg]; exact Nat.ne_of_lt (blk_lt BK663.out) : gb663 ≠ gb665)); have n7_ := Aside0.mk ((by rw [hg]; exact Nat.ne_of_gt (blk_lt BK663.out) : gb665 ≠ gb663)); have n8_ := Aside0.mk ((by rw [hg]; exact Nat.ne_of_lt (blk_lt BK664.out) : gb664 ≠ gb665)); have n9_ := Aside0.mk ((by rw [hg]; exact Nat.ne_of_gt (blk_lt BK664.out) : gb665 ≠ gb664)); clear BK663; clear BK664; clear HB; have BK663 := n0_; have BK664 := n1_; have HB := n2_; have BK665 := n3_; have GW665 := n4_; have GE665 := n5_; have NB663_665 := n6_; have NB665_663 := n7_; have NB664_665 := n8_; have NB665_664 := n9_; clear n0_ n1_ n2_ n3_ n4_ n5_ n6_ n7_ n8_ n9_; clear hb hbox hg) | ((with_reducible refine gate_dst (N := 8) rfl ?_); refine box_event ?hg (N := 8) ?hd (cs := #[.string (⟨#[]⟩ : ByteArray), .int .i64 0, .string (⟨#[]⟩ : ByteArray), .int .i64 0, .int .i64 0, .string (⟨#[]⟩ : ByteArray)]) (t := 76) ?hr ?_; (case hd => rfl); (case hg => rfl); (case hr => first | (go_simp; done) | (go_simp; rfl)); intro gb666 hg w11 hbox hb; have n0_ := Aside0.mk (blk_below BK663.out hb); have n1_ := Aside0.mk (blk_below BK664.out hb); have n2_ := Aside0.mk (blk_below BK665.out hb); have n3_ := Aside0.mk (below_step HB.out hb); have n4_ := Aside0.mk (hbox); have n5_ := Aside0.mk ((by rw [hg]; exact (below_size HB.out) : w.heap.size ≤ gb666)); have n6_ := Aside0.mk ((by rw [hg]; exact (below_size HB.out) : w.heap.size ≤ gb666)); have n7_ := Aside0.mk ((by rw [hg]; exact Nat.ne_of_lt (blk_lt BK663.out) : gb663 ≠ gb666)); have n8_ := Aside0.mk ((by rw [hg]; exact Nat.ne_of_gt (blk_lt BK663.out) : gb666 ≠ gb663)); have n9_ := Aside0.mk ((by rw [hg]; exact Nat.ne_of_lt (blk_lt BK664.out) : gb664 ≠ gb666)); have n10_ := Aside0.mk ((by rw [hg]; exact Nat.ne_of_gt (blk_lt BK664.out) : gb666 ≠ gb664)); have n11_ := Aside0.mk ((by rw [hg]; exact Nat.ne_of_lt (blk_lt BK665.out) : gb665 ≠ gb666)); have n12_ := Aside0.mk ((by rw [hg]; exact Nat.ne_of_gt (blk_lt BK665.out) : gb666 ≠ gb665)); clear BK663; clear BK664; clear BK665; clear HB; have BK663 := n0_; have BK664 := n1_; have BK665 := n2_; have HB := n3_; have BK666 := n4_; have GW666 := n5_; have GE666 := n6_; have NB663_666 := n7_; have NB666_663 := n8_; have NB664_666 := n9_; have NB666_664 := n10_; have NB665_666 := n11_; have NB666_665 := n12_; clear n0_ n1_ n2_ n3_ n4_ n5_ n6_ n7_ n8_ n9_ n10_ n11_ n12_; clear hb hbox hg; have hnb12 := NB663_664.out; have hnc12 := NB664_663.out; have hnb13 := NB663_665.out; have hnc13 := NB665_663.out; have hnb14 := NB663_666.out; have hnc14 := NB666_663.out; obtain ⟨hcz15_0, hcz15_1, hcz15_2, hcz15_3, hcz15_4, hcz15_5, hcz15_6, hcz15_7, hcz15_8, hcz15_9, hcz15_10⟩ := cells_11 BK663.out; obtain ⟨hfz15_0, hfz15_1, hfz15_2, hfz15_3, hfz15_4, hfz15_5, hfz15_6, hfz15_7, hfz15_8, hfz15_9, hfz15_10⟩ := frozen_11 BK663.out; have hnb16 := NB664_665.out; have hnc16 := NB665_664.out; have hnb17 := NB664_666.out; have hnc17 := NB666_664.out; have hall1_ := cells_24 BK664.out; have hall2_ := frozen_24 BK664.out) | ((with_reducible refine gate_callee (f := 52) rfl ?_); refine goesL_ (some 15) rfl rfl Try.func52 (by kernel_rfl) rfl #[.agg #[.int .i64 a0_0, .int .i64 a0_1, .int .i64 a0_2, .int .i64 a0_3, .int .i64 a0_4, .int .i64 a0_5, .int .i64 a0_6, .int .i64 a0_7, .int .i64 a0_8, .int .i64 a0_9, .slice A0_10 l0_10.length c0_10], .agg #[.int .i64 a1_0, .int .i64 a1_1, .int .i64 a1_2, .string a1_3, .int .i64 a1_4, .string a1_5, .string a1_6, .int .i64 a1_7, .int .i64 a1_8, .string a1_9, .string a1_10, .string a1_11, .string a1_12, .string a1_13, .string a1_14, .slice A1_15 l1_15.length c1_15, .slice A1_16 l1_16.length c1_16, .slice A1_17 l1_17.length c1_17, .int .i64 a1_18, .int .i64 a1_19, .int .i64 a1_20, .int .i64 a1_21, .int .i64 a1_22, .int .i64 a1_23], .int .i64 a2] rfl (by (try simp only [List.map_toArray, List.map_cons, List.map_nil]); first | done | rfl | (simp only [List.length_drop, List.length_take]; rfl)) ?_; (with_reducible refine (bellwetherref23_Open.calls k a0_0 a0_1 a0_2 a0_3 a0_4 a0_5 a0_6 a0_7 a0_8 a0_9 _ _ l0_10 a1_0 a1_1 a1_2 a1_3 a1_4 a1_5 a1_6 a1_7 a1_8 a1_9 a1_10 a1_11 a1_12 a1_13 a1_14 _ _ l1_15 _ _ l1_16 _ _ l1_17 a1_18 a1_19 a1_20 a1_21 a1_22 a1_23 a2 t667 _ ?side1 ?side2 ?side3 ?side4 ?side5 ?side6 ?side7 ?side8 A5.out).mono ?_); (case side1 => exact (Kd.C_below HR0_10.out HB.out)); (case side2 => exact HC0_10.out); (case side3 => exact (Kd.C_below HR1_15.out HB.out)); (case side4 => exact HC1_15.out); (case side5 => exact (Kd.C_below HR1_16.out HB.out)); (case side6 => exact HC1_16.out); (case side7 => exact (Kd.C_below HR1_17.out HB.out)); (case side8 => exact HC1_17.out); rintro e w19 ⟨rfl, hb⟩; refine ⟨_, rfl, ?_⟩; have n0_ := Aside0.mk (blk_below BK663.out hb); have n1_ := Aside0.mk (blk_below BK664.out hb); have n2_ := Aside0.mk (blk_below BK665.out hb); have n3_ := Aside0.mk (blk_below BK666.out hb); have n4_ := Aside0.mk (below_step HB.out hb); clear BK663; clear BK664; clear BK665; clear BK666; clear HB; have BK663 := n0_; have BK664 := n1_; have BK665 := n2_; have BK666 := n3_; have HB := n4_; clear n0_ n1_ n2_ n3_ n4_; (try clear hb); (try clear hb2); (try clear hk); (try clear hi)))
  have n0_ := Aside0.mk (blk_drew BK663.out)
  have n1_ := Aside0.mk (blk_drew BK664.out)
  have n2_ := Aside0.mk (blk_drew BK665.out)
  have n3_ := Aside0.mk (blk_drew BK666.out)
  have n4_ := Aside0.mk (below_drew1 HB.out)
  clear BK663
  clear BK664
  clear BK665
  clear BK666
  clear HB
  have BK663 := n0_
  have BK664 := n1_
  have BK665 := n2_
  have BK666 := n3_
  have HB := n4_
  clear n0_ n1_ n2_ n3_ n4_
  refine start_ (n := 7) (S := fun w' => w'.cell? ⟨gb665, 0, none⟩ = some (.string a3_0) ∧ w'.cell? ⟨gb665, 1, none⟩ = some (.int .i64 a3_1) ∧ w'.cell? ⟨gb665, 2, none⟩ = some (.string a3_2) ∧ w'.cell? ⟨gb665, 3, none⟩ = some (.int .i64 a3_3) ∧ w'.cell? ⟨gb665, 4, none⟩ = some (.int .i64 a3_4) ∧ w'.cell? ⟨gb665, 5, none⟩ = some (.string a3_5) ∧ w'.cell? ⟨gb664, 0, none⟩ = some (.int .i64 a1_0) ∧ w'.cell? ⟨gb664, 1, none⟩ = some (.int .i64 a1_1) ∧ w'.cell? ⟨gb664, 2, none⟩ = some (.int .i64 a1_2) ∧ w'.cell? ⟨gb664, 3, none⟩ = some (.string a1_3) ∧ w'.cell? ⟨gb664, 4, none⟩ = some (.int .i64 a1_4) ∧ w'.cell? ⟨gb664, 5, none⟩ = some (.string a1_5) ∧ w'.cell? ⟨gb664, 6, none⟩ = some (.string a1_6) ∧ w'.cell? ⟨gb664, 7, none⟩ = some (.int .i64 a1_7) ∧ w'.cell? ⟨gb664, 8, none⟩ = some (.int .i64 a1_8) ∧ w'.cell? ⟨gb664, 9, none⟩ = some (.string a1_9) ∧ w'.cell? ⟨gb664, 10, none⟩ = some (.string a1_10) ∧ w'.cell? ⟨gb664, 11, none⟩ = some (.string a1_11) ∧ w'.cell? ⟨gb664, 12, none⟩ = some (.string a1_12) ∧ w'.cell? ⟨gb664, 13, none⟩ = some (.string a1_13) ∧ w'.cell? ⟨gb664, 14, none⟩ = some (.string a1_14) ∧ w'.cell? ⟨gb664, 15, none⟩ = some (.slice A1_15 l1_15.length c1_15) ∧ w'.cell? ⟨gb664, 16, none⟩ = some (.slice A1_16 l1_16.length c1_16) ∧ w'.cell? ⟨gb664, 17, none⟩ = some (.slice A1_17 l1_17.length c1_17) ∧ w'.cell? ⟨gb664, 18, none⟩ = some (.int .i64 a1_18) ∧ w'.cell? ⟨gb664, 19, none⟩ = some (.int .i64 a1_19) ∧ w'.cell? ⟨gb664, 20, none⟩ = some (.int .i64 a1_20) ∧ w'.cell? ⟨gb664, 21, none⟩ = some (.int .i64 a1_21) ∧ w'.cell? ⟨gb664, 22, none⟩ = some (.int .i64 a1_22) ∧ w'.cell? ⟨gb664, 23, none⟩ = some (.int .i64 a1_23)) (ds := []) #[false, false, false, false, false, false, false] (by kernel_rfl) rfl rfl ⟨(blk_cell BK665.out 0).trans rfl, (blk_cell BK665.out 1).trans rfl, (blk_cell BK665.out 2).trans rfl, (blk_cell BK665.out 3).trans rfl, (blk_cell BK665.out 4).trans rfl, (blk_cell BK665.out 5).trans rfl, (blk_cell BK664.out 0).trans rfl, (blk_cell BK664.out 1).trans rfl, (blk_cell BK664.out 2).trans rfl, (blk_cell BK664.out 3).trans rfl, (blk_cell BK664.out 4).trans rfl, (blk_cell BK664.out 5).trans rfl, (blk_cell BK664.out 6).trans rfl, (blk_cell BK664.out 7).trans rfl, (blk_cell BK664.out 8).trans rfl, (blk_cell BK664.out 9).trans rfl, (blk_cell BK664.out 10).trans rfl, (blk_cell BK664.out 11).trans rfl, (blk_cell BK664.out 12).trans rfl, (blk_cell BK664.out 13).trans rfl, (blk_cell BK664.out 14).trans rfl, (blk_cell BK664.out 15).trans rfl, (blk_cell BK664.out 16).trans rfl, (blk_cell BK664.out 17).trans rfl, (blk_cell BK664.out 18).trans rfl, (blk_cell BK664.out 19).trans rfl, (blk_cell BK664.out 20).trans rfl, (blk_cell BK664.out 21).trans rfl, (blk_cell BK664.out 22).trans rfl, (blk_cell BK664.out 23).trans rfl⟩ (fun hHeld => ?_)
  generalize w19.drew = w20 at BK663 BK664 BK665 BK666 HB hHeld ⊢
  refine pure_ (i := 2) (N := some 20) (v := ?_) (a' := ?_) #[false, false, true, false, false, false, false] rfl rfl (by kernel_rfl) (fun _ _ _ h => h) (Or.inl ⟨by rfl, ?_⟩) ?_ ?_
  rotate_left
  ·intro w'
   go_simp
   with_reducible rfl
  rotate_left
  ·simp only [Act.put, List.setIfInBounds_toArray, List.set_cons_zero, List.set_cons_succ, i64_w, i32_w]
   rfl
  refine take_ (i := 0) (N := some 18) (v := ?_) (a' := ?_) #[true, false, true, false, false, false, false] rfl rfl (by kernel_rfl) (fun _ _ _ h => h) (Or.inl ⟨by rfl, ?_⟩) hHeld ?_ ?_
  rotate_left
  ·rintro w' ⟨s0, s1, s2, s3, s4, s5, s6, s7, s8, s9, s10, s11, s12, s13, s14, s15, s16, s17, s18, s19, s20, s21, s22, s23, s24, s25, s26, s27, s28, s29⟩
   (first | (refine load_cells_24 (ty := 44) (x := .tmp 5) (g := gb664) ?hlo_ ?hx_ Try.underlying44 ?hd_ ?hi_ s6 s7 s8 s9 s10 s11 s12 s13 s14 s15 s16 s17 s18 s19 s20 s21 s22 s23 s24 s25 s26 s27 s28 s29; (case hlo_ => rfl); (case hx_ => rfl); (case hd_ => rfl); (case hi_ => kernel_rfl)) | (go_simp; with_reducible rfl))
  rotate_left
  ·simp only [Act.put, List.setIfInBounds_toArray, List.set_cons_zero, List.set_cons_succ, i64_w, i32_w]
   rfl
  refine take_ (i := 3) (N := some 21) (v := ?_) (a' := ?_) #[true, false, true, true, false, false, false] rfl rfl (by kernel_rfl) (fun _ _ _ h => h) (Or.inl ⟨by rfl, ?_⟩) hHeld ?_ ?_
  rotate_left
  ·rintro w' ⟨s0, s1, s2, s3, s4, s5, s6, s7, s8, s9, s10, s11, s12, s13, s14, s15, s16, s17, s18, s19, s20, s21, s22, s23, s24, s25, s26, s27, s28, s29⟩
   (first | (refine load_cells_24 (ty := 44) (x := .tmp 5) (g := gb664) ?hlo_ ?hx_ Try.underlying44 ?hd_ ?hi_ s6 s7 s8 s9 s10 s11 s12 s13 s14 s15 s16 s17 s18 s19 s20 s21 s22 s23 s24 s25 s26 s27 s28 s29; (case hlo_ => rfl); (case hx_ => rfl); (case hd_ => rfl); (case hi_ => kernel_rfl)) | (go_simp; with_reducible rfl))
  rotate_left
  ·simp only [Act.put, List.setIfInBounds_toArray, List.set_cons_zero, List.set_cons_succ, i64_w, i32_w]
   rfl
  refine one_ (i := 1) (N := some 19) #[true, true, true, true, false, false, false] rfl rfl (by kernel_rfl) (by decide) (fun K hK => ?_)
  refine goes_ Try.func70 (by kernel_rfl) rfl #[.agg #[.string a3_0, .int .i64 a3_1, .string a3_2, .int .i64 a3_3, .int .i64 a3_4, .string a3_5]] (by rfl) rfl rfl (by (try simp only [List.map_toArray, List.map_cons, List.map_nil]); first | done | rfl | (simp only [List.length_drop, List.length_take]; rfl)) ?_
  with_reducible refine (bellwetherref10_Strip.calls a3_0 a3_1 a3_2 a3_3 a3_4 a3_5 t668 t669 t670 t671 t672 t673 _ A7.out).mono ?_
  rintro e w21 ⟨rfl, hb⟩
  refine ⟨_, rfl, ?_⟩
  have n0_ := Aside0.mk (blk_below BK663.out hb)
  have n1_ := Aside0.mk (blk_below BK664.out hb)
  have n2_ := Aside0.mk (blk_below BK665.out hb)
  have n3_ := Aside0.mk (blk_below BK666.out hb)
  have n4_ := Aside0.mk (below_step HB.out hb)
  clear BK663
  clear BK664
  clear BK665
  clear BK666
  clear HB
  have BK663 := n0_
  have BK664 := n1_
  have BK665 := n2_
  have BK666 := n3_
  have HB := n4_
  clear n0_ n1_ n2_ n3_ n4_
  (try clear hb)
  (try clear hb2)
  (try clear hk)
  (try clear hi)
  refine hK.out _ _ (and_6 BK665.out (cells_24 BK664.out)) (fun hHeld => ?_)
  clear hK K
  refine norm_ (a' := ?_) ?_ ?_
  rotate_left
  ·show Act.put _ (some 19) _ = _
   simp only [Act.put, List.setIfInBounds_toArray, List.set_cons_zero, List.set_cons_succ, i64_w, i32_w]
   rfl
  refine one_ (i := 4) (N := none) #[true, true, true, true, true, false, false] rfl rfl (by kernel_rfl) (by decide) (fun K hK => ?_)
  have hs22 : w21.cell? ⟨gb666, 0, none⟩ = some (.string (⟨#[]⟩ : ByteArray)) := (blk_cell BK666.out 0).trans rfl
  have hfs22 := blk_frozen BK666.out 0
  have hns22_0 := NB663_666.out
  have hns22_1 := NB664_666.out
  have hns22_2 := NB665_666.out
  have hms22_0 := NB666_663.out
  have hms22_1 := NB666_664.out
  have hms22_2 := NB666_665.out
  have hs23 : w21.cell? ⟨gb666, 1, none⟩ = some (.int .i64 0) := (blk_cell BK666.out 1).trans rfl
  have hfs23 := blk_frozen BK666.out 1
  have hns23_0 := NB663_666.out
  have hns23_1 := NB664_666.out
  have hns23_2 := NB665_666.out
  have hms23_0 := NB666_663.out
  have hms23_1 := NB666_664.out
  have hms23_2 := NB666_665.out
  have hs24 : w21.cell? ⟨gb666, 2, none⟩ = some (.string (⟨#[]⟩ : ByteArray)) := (blk_cell BK666.out 2).trans rfl
  have hfs24 := blk_frozen BK666.out 2
  have hns24_0 := NB663_666.out
  have hns24_1 := NB664_666.out
  have hns24_2 := NB665_666.out
  have hms24_0 := NB666_663.out
  have hms24_1 := NB666_664.out
  have hms24_2 := NB666_665.out
  have hs25 : w21.cell? ⟨gb666, 3, none⟩ = some (.int .i64 0) := (blk_cell BK666.out 3).trans rfl
  have hfs25 := blk_frozen BK666.out 3
  have hns25_0 := NB663_666.out
  have hns25_1 := NB664_666.out
  have hns25_2 := NB665_666.out
  have hms25_0 := NB666_663.out
  have hms25_1 := NB666_664.out
  have hms25_2 := NB666_665.out
  have hs26 : w21.cell? ⟨gb666, 4, none⟩ = some (.int .i64 0) := (blk_cell BK666.out 4).trans rfl
  have hfs26 := blk_frozen BK666.out 4
  have hns26_0 := NB663_666.out
  have hns26_1 := NB664_666.out
  have hns26_2 := NB665_666.out
  have hms26_0 := NB666_663.out
  have hms26_1 := NB666_664.out
  have hms26_2 := NB666_665.out
  have hs27 : w21.cell? ⟨gb666, 5, none⟩ = some (.string (⟨#[]⟩ : ByteArray)) := (blk_cell BK666.out 5).trans rfl
  have hfs27 := blk_frozen BK666.out 5
  have hns27_0 := NB663_666.out
  have hns27_1 := NB664_666.out
  have hns27_2 := NB665_666.out
  have hms27_0 := NB666_663.out
  have hms27_1 := NB666_664.out
  have hms27_2 := NB666_665.out
  refine skip_ (w1 := ?_) (by rfl) rfl ?_ ?_
  rotate_left
  ·go_simp
   rfl
  refine hK.out _ _ ⟨((cell_far (p := ⟨gb666, _, none⟩) NB665_666.out _).trans (((cell_far (p := ⟨gb666, _, none⟩) NB665_666.out _).trans (((cell_far (p := ⟨gb666, _, none⟩) NB665_666.out _).trans (((cell_far (p := ⟨gb666, _, none⟩) NB665_666.out _).trans (((cell_far (p := ⟨gb666, _, none⟩) NB665_666.out _).trans (((cell_far (p := ⟨gb666, _, none⟩) NB665_666.out _).trans (hHeld.1)))))))))))), ((cell_far (p := ⟨gb666, _, none⟩) NB665_666.out _).trans (((cell_far (p := ⟨gb666, _, none⟩) NB665_666.out _).trans (((cell_far (p := ⟨gb666, _, none⟩) NB665_666.out _).trans (((cell_far (p := ⟨gb666, _, none⟩) NB665_666.out _).trans (((cell_far (p := ⟨gb666, _, none⟩) NB665_666.out _).trans (((cell_far (p := ⟨gb666, _, none⟩) NB665_666.out _).trans (hHeld.2.1)))))))))))), ((cell_far (p := ⟨gb666, _, none⟩) NB665_666.out _).trans (((cell_far (p := ⟨gb666, _, none⟩) NB665_666.out _).trans (((cell_far (p := ⟨gb666, _, none⟩) NB665_666.out _).trans (((cell_far (p := ⟨gb666, _, none⟩) NB665_666.out _).trans (((cell_far (p := ⟨gb666, _, none⟩) NB665_666.out _).trans (((cell_far (p := ⟨gb666, _, none⟩) NB665_666.out _).trans (hHeld.2.2.1)))))))))))), ((cell_far (p := ⟨gb666, _, none⟩) NB665_666.out _).trans (((cell_far (p := ⟨gb666, _, none⟩) NB665_666.out _).trans (((cell_far (p := ⟨gb666, _, none⟩) NB665_666.out _).trans (((cell_far (p := ⟨gb666, _, none⟩) NB665_666.out _).trans (((cell_far (p := ⟨gb666, _, none⟩) NB665_666.out _).trans (((cell_far (p := ⟨gb666, _, none⟩) NB665_666.out _).trans (hHeld.2.2.2.1)))))))))))), ((cell_far (p := ⟨gb666, _, none⟩) NB665_666.out _).trans (((cell_far (p := ⟨gb666, _, none⟩) NB665_666.out _).trans (((cell_far (p := ⟨gb666, _, none⟩) NB665_666.out _).trans (((cell_far (p := ⟨gb666, _, none⟩) NB665_666.out _).trans (((cell_far (p := ⟨gb666, _, none⟩) NB665_666.out _).trans (((cell_far (p := ⟨gb666, _, none⟩) NB665_666.out _).trans (hHeld.2.2.2.2.1)))))))))))), ((cell_far (p := ⟨gb666, _, none⟩) NB665_666.out _).trans (((cell_far (p := ⟨gb666, _, none⟩) NB665_666.out _).trans (((cell_far (p := ⟨gb666, _, none⟩) NB665_666.out _).trans (((cell_far (p := ⟨gb666, _, none⟩) NB665_666.out _).trans (((cell_far (p := ⟨gb666, _, none⟩) NB665_666.out _).trans (((cell_far (p := ⟨gb666, _, none⟩) NB665_666.out _).trans (hHeld.2.2.2.2.2.1)))))))))))), ((cell_far (p := ⟨gb666, _, none⟩) NB664_666.out _).trans (((cell_far (p := ⟨gb666, _, none⟩) NB664_666.out _).trans (((cell_far (p := ⟨gb666, _, none⟩) NB664_666.out _).trans (((cell_far (p := ⟨gb666, _, none⟩) NB664_666.out _).trans (((cell_far (p := ⟨gb666, _, none⟩) NB664_666.out _).trans (((cell_far (p := ⟨gb666, _, none⟩) NB664_666.out _).trans (hHeld.2.2.2.2.2.2.1)))))))))))), ((cell_far (p := ⟨gb666, _, none⟩) NB664_666.out _).trans (((cell_far (p := ⟨gb666, _, none⟩) NB664_666.out _).trans (((cell_far (p := ⟨gb666, _, none⟩) NB664_666.out _).trans (((cell_far (p := ⟨gb666, _, none⟩) NB664_666.out _).trans (((cell_far (p := ⟨gb666, _, none⟩) NB664_666.out _).trans (((cell_far (p := ⟨gb666, _, none⟩) NB664_666.out _).trans (hHeld.2.2.2.2.2.2.2.1)))))))))))), ((cell_far (p := ⟨gb666, _, none⟩) NB664_666.out _).trans (((cell_far (p := ⟨gb666, _, none⟩) NB664_666.out _).trans (((cell_far (p := ⟨gb666, _, none⟩) NB664_666.out _).trans (((cell_far (p := ⟨gb666, _, none⟩) NB664_666.out _).trans (((cell_far (p := ⟨gb666, _, none⟩) NB664_666.out _).trans (((cell_far (p := ⟨gb666, _, none⟩) NB664_666.out _).trans (hHeld.2.2.2.2.2.2.2.2.1)))))))))))), ((cell_far (p := ⟨gb666, _, none⟩) NB664_666.out _).trans (((cell_far (p := ⟨gb666, _, none⟩) NB664_666.out _).trans (((cell_far (p := ⟨gb666, _, none⟩) NB664_666.out _).trans (((cell_far (p := ⟨gb666, _, none⟩) NB664_666.out _).trans (((cell_far (p := ⟨gb666, _, none⟩) NB664_666.out _).trans (((cell_far (p := ⟨gb666, _, none⟩) NB664_666.out _).trans (hHeld.2.2.2.2.2.2.2.2.2.1)))))))))))), ((cell_far (p := ⟨gb666, _, none⟩) NB664_666.out _).trans (((cell_far (p := ⟨gb666, _, none⟩) NB664_666.out _).trans (((cell_far (p := ⟨gb666, _, none⟩) NB664_666.out _).trans (((cell_far (p := ⟨gb666, _, none⟩) NB664_666.out _).trans (((cell_far (p := ⟨gb666, _, none⟩) NB664_666.out _).trans (((cell_far (p := ⟨gb666, _, none⟩) NB664_666.out _).trans (hHeld.2.2.2.2.2.2.2.2.2.2.1)))))))))))), ((cell_far (p := ⟨gb666, _, none⟩) NB664_666.out _).trans (((cell_far (p := ⟨gb666, _, none⟩) NB664_666.out _).trans (((cell_far (p := ⟨gb666, _, none⟩) NB664_666.out _).trans (((cell_far (p := ⟨gb666, _, none⟩) NB664_666.out _).trans (((cell_far (p := ⟨gb666, _, none⟩) NB664_666.out _).trans (((cell_far (p := ⟨gb666, _, none⟩) NB664_666.out _).trans (hHeld.2.2.2.2.2.2.2.2.2.2.2.1)))))))))))), ((cell_far (p := ⟨gb666, _, none⟩) NB664_666.out _).trans (((cell_far (p := ⟨gb666, _, none⟩) NB664_666.out _).trans (((cell_far (p := ⟨gb666, _, none⟩) NB664_666.out _).trans (((cell_far (p := ⟨gb666, _, none⟩) NB664_666.out _).trans (((cell_far (p := ⟨gb666, _, none⟩) NB664_666.out _).trans (((cell_far (p := ⟨gb666, _, none⟩) NB664_666.out _).trans (hHeld.2.2.2.2.2.2.2.2.2.2.2.2.1)))))))))))), ((cell_far (p := ⟨gb666, _, none⟩) NB664_666.out _).trans (((cell_far (p := ⟨gb666, _, none⟩) NB664_666.out _).trans (((cell_far (p := ⟨gb666, _, none⟩) NB664_666.out _).trans (((cell_far (p := ⟨gb666, _, none⟩) NB664_666.out _).trans (((cell_far (p := ⟨gb666, _, none⟩) NB664_666.out _).trans (((cell_far (p := ⟨gb666, _, none⟩) NB664_666.out _).trans (hHeld.2.2.2.2.2.2.2.2.2.2.2.2.2.1)))))))))))), ((cell_far (p := ⟨gb666, _, none⟩) NB664_666.out _).trans (((cell_far (p := ⟨gb666, _, none⟩) NB664_666.out _).trans (((cell_far (p := ⟨gb666, _, none⟩) NB664_666.out _).trans (((cell_far (p := ⟨gb666, _, none⟩) NB664_666.out _).trans (((cell_far (p := ⟨gb666, _, none⟩) NB664_666.out _).trans (((cell_far (p := ⟨gb666, _, none⟩) NB664_666.out _).trans (hHeld.2.2.2.2.2.2.2.2.2.2.2.2.2.2.1)))))))))))), ((cell_far (p := ⟨gb666, _, none⟩) NB664_666.out _).trans (((cell_far (p := ⟨gb666, _, none⟩) NB664_666.out _).trans (((cell_far (p := ⟨gb666, _, none⟩) NB664_666.out _).trans (((cell_far (p := ⟨gb666, _, none⟩) NB664_666.out _).trans (((cell_far (p := ⟨gb666, _, none⟩) NB664_666.out _).trans (((cell_far (p := ⟨gb666, _, none⟩) NB664_666.out _).trans (hHeld.2.2.2.2.2.2.2.2.2.2.2.2.2.2.2.1)))))))))))), ((cell_far (p := ⟨gb666, _, none⟩) NB664_666.out _).trans (((cell_far (p := ⟨gb666, _, none⟩) NB664_666.out _).trans (((cell_far (p := ⟨gb666, _, none⟩) NB664_666.out _).trans (((cell_far (p := ⟨gb666, _, none⟩) NB664_666.out _).trans (((cell_far (p := ⟨gb666, _, none⟩) NB664_666.out _).trans (((cell_far (p := ⟨gb666, _, none⟩) NB664_666.out _).trans (hHeld.2.2.2.2.2.2.2.2.2.2.2.2.2.2.2.2.1)))))))))))), ((cell_far (p := ⟨gb666, _, none⟩) NB664_666.out _).trans (((cell_far (p := ⟨gb666, _, none⟩) NB664_666.out _).trans (((cell_far (p := ⟨gb666, _, none⟩) NB664_666.out _).trans (((cell_far (p := ⟨gb666, _, none⟩) NB664_666.out _).trans (((cell_far (p := ⟨gb666, _, none⟩) NB664_666.out _).trans (((cell_far (p := ⟨gb666, _, none⟩) NB664_666.out _).trans (hHeld.2.2.2.2.2.2.2.2.2.2.2.2.2.2.2.2.2.1)))))))))))), ((cell_far (p := ⟨gb666, _, none⟩) NB664_666.out _).trans (((cell_far (p := ⟨gb666, _, none⟩) NB664_666.out _).trans (((cell_far (p := ⟨gb666, _, none⟩) NB664_666.out _).trans (((cell_far (p := ⟨gb666, _, none⟩) NB664_666.out _).trans (((cell_far (p := ⟨gb666, _, none⟩) NB664_666.out _).trans (((cell_far (p := ⟨gb666, _, none⟩) NB664_666.out _).trans (hHeld.2.2.2.2.2.2.2.2.2.2.2.2.2.2.2.2.2.2.1)))))))))))), ((cell_far (p := ⟨gb666, _, none⟩) NB664_666.out _).trans (((cell_far (p := ⟨gb666, _, none⟩) NB664_666.out _).trans (((cell_far (p := ⟨gb666, _, none⟩) NB664_666.out _).trans (((cell_far (p := ⟨gb666, _, none⟩) NB664_666.out _).trans (((cell_far (p := ⟨gb666, _, none⟩) NB664_666.out _).trans (((cell_far (p := ⟨gb666, _, none⟩) NB664_666.out _).trans (hHeld.2.2.2.2.2.2.2.2.2.2.2.2.2.2.2.2.2.2.2.1)))))))))))), ((cell_far (p := ⟨gb666, _, none⟩) NB664_666.out _).trans (((cell_far (p := ⟨gb666, _, none⟩) NB664_666.out _).trans (((cell_far (p := ⟨gb666, _, none⟩) NB664_666.out _).trans (((cell_far (p := ⟨gb666, _, none⟩) NB664_666.out _).trans (((cell_far (p := ⟨gb666, _, none⟩) NB664_666.out _).trans (((cell_far (p := ⟨gb666, _, none⟩) NB664_666.out _).trans (hHeld.2.2.2.2.2.2.2.2.2.2.2.2.2.2.2.2.2.2.2.2.1)))))))))))), ((cell_far (p := ⟨gb666, _, none⟩) NB664_666.out _).trans (((cell_far (p := ⟨gb666, _, none⟩) NB664_666.out _).trans (((cell_far (p := ⟨gb666, _, none⟩) NB664_666.out _).trans (((cell_far (p := ⟨gb666, _, none⟩) NB664_666.out _).trans (((cell_far (p := ⟨gb666, _, none⟩) NB664_666.out _).trans (((cell_far (p := ⟨gb666, _, none⟩) NB664_666.out _).trans (hHeld.2.2.2.2.2.2.2.2.2.2.2.2.2.2.2.2.2.2.2.2.2.1)))))))))))), ((cell_far (p := ⟨gb666, _, none⟩) NB664_666.out _).trans (((cell_far (p := ⟨gb666, _, none⟩) NB664_666.out _).trans (((cell_far (p := ⟨gb666, _, none⟩) NB664_666.out _).trans (((cell_far (p := ⟨gb666, _, none⟩) NB664_666.out _).trans (((cell_far (p := ⟨gb666, _, none⟩) NB664_666.out _).trans (((cell_far (p := ⟨gb666, _, none⟩) NB664_666.out _).trans (hHeld.2.2.2.2.2.2.2.2.2.2.2.2.2.2.2.2.2.2.2.2.2.2.1)))))))))))), ((cell_far (p := ⟨gb666, _, none⟩) NB664_666.out _).trans (((cell_far (p := ⟨gb666, _, none⟩) NB664_666.out _).trans (((cell_far (p := ⟨gb666, _, none⟩) NB664_666.out _).trans (((cell_far (p := ⟨gb666, _, none⟩) NB664_666.out _).trans (((cell_far (p := ⟨gb666, _, none⟩) NB664_666.out _).trans (((cell_far (p := ⟨gb666, _, none⟩) NB664_666.out _).trans (hHeld.2.2.2.2.2.2.2.2.2.2.2.2.2.2.2.2.2.2.2.2.2.2.2.1)))))))))))), ((cell_far (p := ⟨gb666, _, none⟩) NB664_666.out _).trans (((cell_far (p := ⟨gb666, _, none⟩) NB664_666.out _).trans (((cell_far (p := ⟨gb666, _, none⟩) NB664_666.out _).trans (((cell_far (p := ⟨gb666, _, none⟩) NB664_666.out _).trans (((cell_far (p := ⟨gb666, _, none⟩) NB664_666.out _).trans (((cell_far (p := ⟨gb666, _, none⟩) NB664_666.out _).trans (hHeld.2.2.2.2.2.2.2.2.2.2.2.2.2.2.2.2.2.2.2.2.2.2.2.2.1)))))))))))), ((cell_far (p := ⟨gb666, _, none⟩) NB664_666.out _).trans (((cell_far (p := ⟨gb666, _, none⟩) NB664_666.out _).trans (((cell_far (p := ⟨gb666, _, none⟩) NB664_666.out _).trans (((cell_far (p := ⟨gb666, _, none⟩) NB664_666.out _).trans (((cell_far (p := ⟨gb666, _, none⟩) NB664_666.out _).trans (((cell_far (p := ⟨gb666, _, none⟩) NB664_666.out _).trans (hHeld.2.2.2.2.2.2.2.2.2.2.2.2.2.2.2.2.2.2.2.2.2.2.2.2.2.1)))))))))))), ((cell_far (p := ⟨gb666, _, none⟩) NB664_666.out _).trans (((cell_far (p := ⟨gb666, _, none⟩) NB664_666.out _).trans (((cell_far (p := ⟨gb666, _, none⟩) NB664_666.out _).trans (((cell_far (p := ⟨gb666, _, none⟩) NB664_666.out _).trans (((cell_far (p := ⟨gb666, _, none⟩) NB664_666.out _).trans (((cell_far (p := ⟨gb666, _, none⟩) NB664_666.out _).trans (hHeld.2.2.2.2.2.2.2.2.2.2.2.2.2.2.2.2.2.2.2.2.2.2.2.2.2.2.1)))))))))))), ((cell_far (p := ⟨gb666, _, none⟩) NB664_666.out _).trans (((cell_far (p := ⟨gb666, _, none⟩) NB664_666.out _).trans (((cell_far (p := ⟨gb666, _, none⟩) NB664_666.out _).trans (((cell_far (p := ⟨gb666, _, none⟩) NB664_666.out _).trans (((cell_far (p := ⟨gb666, _, none⟩) NB664_666.out _).trans (((cell_far (p := ⟨gb666, _, none⟩) NB664_666.out _).trans (hHeld.2.2.2.2.2.2.2.2.2.2.2.2.2.2.2.2.2.2.2.2.2.2.2.2.2.2.2.1)))))))))))), ((cell_far (p := ⟨gb666, _, none⟩) NB664_666.out _).trans (((cell_far (p := ⟨gb666, _, none⟩) NB664_666.out _).trans (((cell_far (p := ⟨gb666, _, none⟩) NB664_666.out _).trans (((cell_far (p := ⟨gb666, _, none⟩) NB664_666.out _).trans (((cell_far (p := ⟨gb666, _, none⟩) NB664_666.out _).trans (((cell_far (p := ⟨gb666, _, none⟩) NB664_666.out _).trans (hHeld.2.2.2.2.2.2.2.2.2.2.2.2.2.2.2.2.2.2.2.2.2.2.2.2.2.2.2.2.1)))))))))))), ((cell_far (p := ⟨gb666, _, none⟩) NB664_666.out _).trans (((cell_far (p := ⟨gb666, _, none⟩) NB664_666.out _).trans (((cell_far (p := ⟨gb666, _, none⟩) NB664_666.out _).trans (((cell_far (p := ⟨gb666, _, none⟩) NB664_666.out _).trans (((cell_far (p := ⟨gb666, _, none⟩) NB664_666.out _).trans (((cell_far (p := ⟨gb666, _, none⟩) NB664_666.out _).trans (hHeld.2.2.2.2.2.2.2.2.2.2.2.2.2.2.2.2.2.2.2.2.2.2.2.2.2.2.2.2.2))))))))))))⟩ (fun hHeld => ?_)
  clear hK K
  refine pure_ (i := 5) (N := some 9) (v := ?_) (a' := ?_) #[true, true, true, true, true, true, false] rfl rfl (by kernel_rfl) (fun _ _ _ h => h) (Or.inl ⟨by rfl, ?_⟩) ?_ ?_
  rotate_left
  ·intro w'
   go_simp
   with_reducible rfl
  rotate_left
  ·simp only [Act.put, List.setIfInBounds_toArray, List.set_cons_zero, List.set_cons_succ, i64_w, i32_w]
   rfl
  refine pure_ (i := 6) (N := some 10) (v := ?_) (a' := ?_) #[true, true, true, true, true, true, true] rfl rfl (by kernel_rfl) (fun _ _ _ h => h) (Or.inl ⟨by rfl, ?_⟩) ?_ ?_
  rotate_left
  ·intro w'
   go_simp
   with_reducible rfl
  rotate_left
  ·simp only [Act.put, List.setIfInBounds_toArray, List.set_cons_zero, List.set_cons_succ, i64_w, i32_w]
   rfl
  refine done_ (by kernel_rfl) ?_
  try go_wp2
  refine bodyPost_ret (results_ctt rfl _ _ gb666 76 #[.string t668, .int .i64 t669, .string t670, .int .i64 t671, .int .i64 t672, .string t673] (0, 0) _ rfl (by (with_reducible repeat (first | refine blk_drewN ?_ _ | refine blk_drew ?_ | refine blk_alloc ?_ _)); refine blk_put (cs := #[.string t668, .int .i64 t669, .string t670, .int .i64 t671, .int .i64 t672, .string (⟨#[]⟩ : ByteArray)]) ?_ 5 _ rfl; (with_reducible repeat (first | refine blk_drewN ?_ _ | refine blk_drew ?_ | refine blk_alloc ?_ _)); refine blk_put (cs := #[.string t668, .int .i64 t669, .string t670, .int .i64 t671, .int .i64 0, .string (⟨#[]⟩ : ByteArray)]) ?_ 4 _ rfl; (with_reducible repeat (first | refine blk_drewN ?_ _ | refine blk_drew ?_ | refine blk_alloc ?_ _)); refine blk_put (cs := #[.string t668, .int .i64 t669, .string t670, .int .i64 0, .int .i64 0, .string (⟨#[]⟩ : ByteArray)]) ?_ 3 _ rfl; (with_reducible repeat (first | refine blk_drewN ?_ _ | refine blk_drew ?_ | refine blk_alloc ?_ _)); refine blk_put (cs := #[.string t668, .int .i64 t669, .string (⟨#[]⟩ : ByteArray), .int .i64 0, .int .i64 0, .string (⟨#[]⟩ : ByteArray)]) ?_ 2 _ rfl; (with_reducible repeat (first | refine blk_drewN ?_ _ | refine blk_drew ?_ | refine blk_alloc ?_ _)); refine blk_put (cs := #[.string t668, .int .i64 0, .string (⟨#[]⟩ : ByteArray), .int .i64 0, .int .i64 0, .string (⟨#[]⟩ : ByteArray)]) ?_ 1 _ rfl; (with_reducible repeat (first | refine blk_drewN ?_ _ | refine blk_drew ?_ | refine blk_alloc ?_ _)); refine blk_put (cs := #[.string (⟨#[]⟩ : ByteArray), .int .i64 0, .string (⟨#[]⟩ : ByteArray), .int .i64 0, .int .i64 0, .string (⟨#[]⟩ : ByteArray)]) ?_ 0 _ rfl; (with_reducible repeat (first | refine blk_drewN ?_ _ | refine blk_drew ?_ | refine blk_alloc ?_ _)); exact BK666.out) Try.underlying76 rfl (by kernel_rfl)) rfl ?_
  exact ⟨by first | rfl | (simp [errW_none, errW_some] <;> rfl) | (simp [*, errW_none, errW_some] <;> rfl), by repeat (first | (with_reducible first | exact HB.out | apply below_alloc | apply pw_below_drewN | apply below_drew1 | refine below_set ?_ GE663.out | refine below_set ?_ GE664.out | refine below_set ?_ GE665.out | refine below_set ?_ GE666.out) | exact HB.out)⟩
 ·rw [if_neg c6] at H
  have c6b0 : decide (t667 < 0) = false := decide_eq_false c6
  clear c6
  replace H := Option.bind_eq_some_iff.mp H
  obtain ⟨⟨t674, t675, t676, t677, t678, t679⟩, A280, H⟩ := H
  replace H : ((bellwetherref23_Mark.f k a1_12 (l0_10.length : Int) (([t667] : List Int))).bind fun t683 => (some (t674, t675, t676, t677, t678, t679, t683, wrap64 (t667 + 1)))) = some (r1, r2, r3, r4, r5, r6, r7, r8) := H
  have A28 := Aside0.mk A280
  clear A280
  obtain ⟨y680, hy680⟩ : ∃ y_ : List Int, y_ = (([t667] : List Int)) := ⟨_, rfl⟩
  replace H : ((bellwetherref23_Mark.f k a1_12 (l0_10.length : Int) y680).bind fun t683 => (some (t674, t675, t676, t677, t678, t679, t683, wrap64 (t667 + 1)))) = some (r1, r2, r3, r4, r5, r6, r7, r8) := by first | (rw [hy680]; with_reducible exact H) | (have H2_ := (Option.bind_some _ _).symm.trans H; rw [hy680]; with_reducible exact H2_) | (have H2_ := (Option.bind_some _ _).symm.trans H; with_reducible exact H2_) | with_reducible exact H | (rw [hy680]; exact H) | exact H
  have Ny680 := Aside0.mk hy680
  clear hy680
  replace H := Option.bind_eq_some_iff.mp H
  obtain ⟨t683, A290, H⟩ := H
  replace H : (some (t674, t675, t676, t677, t678, t679, t683, wrap64 (t667 + 1))) = some (r1, r2, r3, r4, r5, r6, r7, r8) := H
  have A29 := Aside0.mk A290
  clear A290
  simp only [Option.some.injEq, Prod.mk.injEq] at H
  obtain ⟨rfl, rfl, rfl, rfl, rfl, rfl, rfl, rfl⟩ := H
  go_enter Try.func67, Try.ntmps67
  try go_wp2_with (first | ((with_reducible refine gate_load (t := 44) (x := .tmp 5) rfl ?_); refine load_row_g (cs := ?_) ?hw 44 (.tmp 5) ?h2 gb664 ?hx 44 (fr := (0, 0)) (d := ?_) ?hg ?h3 ?h4 ?hi ?_; (case hw => first | (with_reducible rfl) | (go_simp; done) | rfl); (case h2 => rfl); (case hx => first | (with_reducible rfl) | (go_simp; done) | rfl); (case hg => exact BK664.out); (case h3 => exact Try.underlying44); (case h4 => rfl); (case hi => kernel_rfl)) | ((with_reducible refine gate_dst (N := 4) rfl ?_); refine box_event ?hg (N := 4) ?hd (cs := #[.int .i64 a0_0, .int .i64 a0_1, .int .i64 a0_2, .int .i64 a0_3, .int .i64 a0_4, .int .i64 a0_5, .int .i64 a0_6, .int .i64 a0_7, .int .i64 a0_8, .int .i64 a0_9, .slice A0_10 l0_10.length c0_10]) (t := 24) ?hr ?_; (case hd => rfl); (case hg => rfl); (case hr => first | (go_simp; done) | (go_simp; rfl)); intro gb663 hg w30 hbox hb; have n0_ := Aside0.mk (below_step HB.out hb); have n1_ := Aside0.mk (hbox); have n2_ := Aside0.mk ((by rw [hg]; exact (below_size HB.out) : w.heap.size ≤ gb663)); have n3_ := Aside0.mk ((by rw [hg]; exact (below_size HB.out) : w.heap.size ≤ gb663)); clear HB; have HB := n0_; have BK663 := n1_; have GW663 := n2_; have GE663 := n3_; clear n0_ n1_ n2_ n3_; clear hb hbox hg) | ((with_reducible refine gate_dst (N := 5) rfl ?_); refine box_event ?hg (N := 5) ?hd (cs := #[.int .i64 a1_0, .int .i64 a1_1, .int .i64 a1_2, .string a1_3, .int .i64 a1_4, .string a1_5, .string a1_6, .int .i64 a1_7, .int .i64 a1_8, .string a1_9, .string a1_10, .string a1_11, .string a1_12, .string a1_13, .string a1_14, .slice A1_15 l1_15.length c1_15, .slice A1_16 l1_16.length c1_16, .slice A1_17 l1_17.length c1_17, .int .i64 a1_18, .int .i64 a1_19, .int .i64 a1_20, .int .i64 a1_21, .int .i64 a1_22, .int .i64 a1_23]) (t := 44) ?hr ?_; (case hd => rfl); (case hg => rfl); (case hr => first | (go_simp; done) | (go_simp; rfl)); intro gb664 hg w31 hbox hb; have n0_ := Aside0.mk (blk_below BK663.out hb); have n1_ := Aside0.mk (below_step HB.out hb); have n2_ := Aside0.mk (hbox); have n3_ := Aside0.mk ((by rw [hg]; exact (below_size HB.out) : w.heap.size ≤ gb664)); have n4_ := Aside0.mk ((by rw [hg]; exact (below_size HB.out) : w.heap.size ≤ gb664)); have n5_ := Aside0.mk ((by rw [hg]; exact Nat.ne_of_lt (blk_lt BK663.out) : gb663 ≠ gb664)); have n6_ := Aside0.mk ((by rw [hg]; exact Nat.ne_of_gt (blk_lt BK663.out) : gb664 ≠ gb663)); clear BK663; clear HB; have BK663 := n0_; have HB := n1_; have BK664 := n2_; have GW664 := n3_; have GE664 := n4_; have NB663_664 := n5_; have NB664_663 := n6_; clear n0_ n1_ n2_ n3_ n4_ n5_ n6_; clear hb hbox hg) | ((with_reducible refine gate_dst (N := 7) rfl ?_); refine box_event ?hg (N := 7) ?hd (cs := #[.string a3_0, .int .i64 a3_1, .string a3_2, .int .i64 a3_3, .int .i64 a3_4, .string a3_5]) (t := 76) ?hr ?_; (case hd => rfl); (case hg => rfl); (case hr => first | (go_simp; done) | (go_simp; rfl)); intro gb665 hg w32 hbox hb; have n0_ := Aside0.mk (blk_below BK663.out hb); have n1_ := Aside0.mk (blk_below BK664.out hb); have n2_ := Aside0.mk (below_step HB.out hb); have n3_ := Aside0.mk (hbox); have n4_ := Aside0.mk ((by rw [hg]; exact (below_size HB.out) : w.heap.size ≤ gb665)); have n5_ := Aside0.mk ((by rw [hg]; exact (below_size HB.out) : w.heap.size ≤ gb665)); have n6_ := Aside0.mk ((by rw [hg]; exact Nat.ne_of_lt (blk_lt BK663.out) : gb663 ≠ gb665)); have n7_ := Aside0.mk ((by rw [hg]; exact Nat.ne_of_gt (blk_lt BK663.out) : gb665 ≠ gb663)); have n8_ := Aside0.mk ((by rw [hg]; exact Nat.ne_of_lt (blk_lt BK664.out) : gb664 ≠ gb665)); have n9_ := Aside0.mk ((by rw [hg]; exact Nat.ne_of_gt (blk_lt BK664.out) : gb665 ≠ gb664)); clear BK663; clear BK664; clear HB; have BK663 := n0_; have BK664 := n1_; have HB := n2_; have BK665 := n3_; have GW665 := n4_; have GE665 := n5_; have NB663_665 := n6_; have NB665_663 := n7_; have NB664_665 := n8_; have NB665_664 := n9_; clear n0_ n1_ n2_ n3_ n4_ n5_ n6_ n7_ n8_ n9_; clear hb hbox hg) | ((with_reducible refine gate_dst (N := 8) rfl ?_); refine box_event ?hg (N := 8) ?hd (cs := #[.string (⟨#[]⟩ : ByteArray), .int .i64 0, .string (⟨#[]⟩ : ByteArray), .int .i64 0, .int .i64 0, .string (⟨#[]⟩ : ByteArray)]) (t := 76) ?hr ?_; (case hd => rfl); (case hg => rfl); (case hr => first | (go_simp; done) | (go_simp; rfl)); intro gb666 hg w33 hbox hb; have n0_ := Aside0.mk (blk_below BK663.out hb); have n1_ := Aside0.mk (blk_below BK664.out hb); have n2_ := Aside0.mk (blk_below BK665.out hb); have n3_ := Aside0.mk (below_step HB.out hb); have n4_ := Aside0.mk (hbox); have n5_ := Aside0.mk ((by rw [hg]; exact (below_size HB.out) : w.heap.size ≤ gb666)); have n6_ := Aside0.mk ((by rw [hg]; exact (below_size HB.out) : w.heap.size ≤ gb666)); have n7_ := Aside0.mk ((by rw [hg]; exact Nat.ne_of_lt (blk_lt BK663.out) : gb663 ≠ gb666)); have n8_ := Aside0.mk ((by rw [hg]; exact Nat.ne_of_gt (blk_lt BK663.out) : gb666 ≠ gb663)); have n9_ := Aside0.mk ((by rw [hg]; exact Nat.ne_of_lt (blk_lt BK664.out) : gb664 ≠ gb666)); have n10_ := Aside0.mk ((by rw [hg]; exact Nat.ne_of_gt (blk_lt BK664.out) : gb666 ≠ gb664)); have n11_ := Aside0.mk ((by rw [hg]; exact Nat.ne_of_lt (blk_lt BK665.out) : gb665 ≠ gb666)); have n12_ := Aside0.mk ((by rw [hg]; exact Nat.ne_of_gt (blk_lt BK665.out) : gb666 ≠ gb665)); clear BK663; clear BK664; clear BK665; clear HB; have BK663 := n0_; have BK664 := n1_; have BK665 := n2_; have HB := n3_; have BK666 := n4_; have GW666 := n5_; have GE666 := n6_; have NB663_666 := n7_; have NB666_663 := n8_; have NB664_666 := n9_; have NB666_664 := n10_; have NB665_666 := n11_; have NB666_665 := n12_; clear n0_ n1_ n2_ n3_ n4_ n5_ n6_ n7_ n8_ n9_ n10_ n11_ n12_; clear hb hbox hg; have hnb34 := NB663_664.out; have hnc34 := NB664_663.out; have hnb35 := NB663_665.out; have hnc35 := NB665_663.out; have hnb36 := NB663_666.out; have hnc36 := NB666_663.out; obtain ⟨hcz37_0, hcz37_1, hcz37_2, hcz37_3, hcz37_4, hcz37_5, hcz37_6, hcz37_7, hcz37_8, hcz37_9, hcz37_10⟩ := cells_11 BK663.out; obtain ⟨hfz37_0, hfz37_1, hfz37_2, hfz37_3, hfz37_4, hfz37_5, hfz37_6, hfz37_7, hfz37_8, hfz37_9, hfz37_10⟩ := frozen_11 BK663.out; have hnb38 := NB664_665.out; have hnc38 := NB665_664.out; have hnb39 := NB664_666.out; have hnc39 := NB666_664.out; have hall3_ := cells_24 BK664.out; have hall4_ := frozen_24 BK664.out) | ((with_reducible refine gate_callee (f := 52) rfl ?_); refine goesL_ (some 15) rfl rfl Try.func52 (by kernel_rfl) rfl #[.agg #[.int .i64 a0_0, .int .i64 a0_1, .int .i64 a0_2, .int .i64 a0_3, .int .i64 a0_4, .int .i64 a0_5, .int .i64 a0_6, .int .i64 a0_7, .int .i64 a0_8, .int .i64 a0_9, .slice A0_10 l0_10.length c0_10], .agg #[.int .i64 a1_0, .int .i64 a1_1, .int .i64 a1_2, .string a1_3, .int .i64 a1_4, .string a1_5, .string a1_6, .int .i64 a1_7, .int .i64 a1_8, .string a1_9, .string a1_10, .string a1_11, .string a1_12, .string a1_13, .string a1_14, .slice A1_15 l1_15.length c1_15, .slice A1_16 l1_16.length c1_16, .slice A1_17 l1_17.length c1_17, .int .i64 a1_18, .int .i64 a1_19, .int .i64 a1_20, .int .i64 a1_21, .int .i64 a1_22, .int .i64 a1_23], .int .i64 a2] rfl (by (try simp only [List.map_toArray, List.map_cons, List.map_nil]); first | done | rfl | (simp only [List.length_drop, List.length_take]; rfl)) ?_; (with_reducible refine (bellwetherref23_Open.calls k a0_0 a0_1 a0_2 a0_3 a0_4 a0_5 a0_6 a0_7 a0_8 a0_9 _ _ l0_10 a1_0 a1_1 a1_2 a1_3 a1_4 a1_5 a1_6 a1_7 a1_8 a1_9 a1_10 a1_11 a1_12 a1_13 a1_14 _ _ l1_15 _ _ l1_16 _ _ l1_17 a1_18 a1_19 a1_20 a1_21 a1_22 a1_23 a2 t667 _ ?side1 ?side2 ?side3 ?side4 ?side5 ?side6 ?side7 ?side8 A5.out).mono ?_); (case side1 => exact (Kd.C_below HR0_10.out HB.out)); (case side2 => exact HC0_10.out); (case side3 => exact (Kd.C_below HR1_15.out HB.out)); (case side4 => exact HC1_15.out); (case side5 => exact (Kd.C_below HR1_16.out HB.out)); (case side6 => exact HC1_16.out); (case side7 => exact (Kd.C_below HR1_17.out HB.out)); (case side8 => exact HC1_17.out); rintro e w41 ⟨rfl, hb⟩; refine ⟨_, rfl, ?_⟩; have n0_ := Aside0.mk (blk_below BK663.out hb); have n1_ := Aside0.mk (blk_below BK664.out hb); have n2_ := Aside0.mk (blk_below BK665.out hb); have n3_ := Aside0.mk (blk_below BK666.out hb); have n4_ := Aside0.mk (below_step HB.out hb); clear BK663; clear BK664; clear BK665; clear BK666; clear HB; have BK663 := n0_; have BK664 := n1_; have BK665 := n2_; have BK666 := n3_; have HB := n4_; clear n0_ n1_ n2_ n3_ n4_; (try clear hb); (try clear hb2); (try clear hk); (try clear hi)))
  have n0_ := Aside0.mk (blk_drew BK663.out)
  have n1_ := Aside0.mk (blk_drew BK664.out)
  have n2_ := Aside0.mk (blk_drew BK665.out)
  have n3_ := Aside0.mk (blk_drew BK666.out)
  have n4_ := Aside0.mk (below_drew1 HB.out)
  clear BK663
  clear BK664
  clear BK665
  clear BK666
  clear HB
  have BK663 := n0_
  have BK664 := n1_
  have BK665 := n2_
  have BK666 := n3_
  have HB := n4_
  clear n0_ n1_ n2_ n3_ n4_
  refine start_ (n := 20) (S := fun w' => True) (ds := []) #[false, false, false, false, false, false, false, false, false, false, false, false, false, false, false, false, false, false, false, false] (by kernel_rfl) rfl rfl trivial (fun hHeld => ?_); refine with_tabW bellwetherref23_Send.tab4 bellwetherref23_Send.bits4 (fun HT_ HW_ => ?_)
  generalize w41.drew = w42 at BK663 BK664 BK665 BK666 HB hHeld ⊢
  refine pure_ (i := 1) (N := some 23) (v := ?_) (a' := ?_) #[false, true, false, false, false, false, false, false, false, false, false, false, false, false, false, false, false, false, false, false] rfl rfl (any_of HT_.out (by kernel_rfl)) (fun _ _ _ h => h) (Or.inl ⟨by rfl, ?_⟩) ?_ ?_
  rotate_left
  ·intro w'
   go_simp
   with_reducible rfl
  rotate_left
  ·simp only [Act.put, List.setIfInBounds_toArray, List.set_cons_zero, List.set_cons_succ, i64_w, i32_w]
   rfl
  refine pure_ (i := 2) (N := some 24) (v := ?_) (a' := ?_) #[false, true, true, false, false, false, false, false, false, false, false, false, false, false, false, false, false, false, false, false] rfl rfl (any_of HT_.out (by kernel_rfl)) (fun _ _ _ h => h) (Or.inl ⟨by rfl, ?_⟩) ?_ ?_
  rotate_left
  ·intro w'
   go_simp
   with_reducible rfl
  rotate_left
  ·simp only [Act.put, List.setIfInBounds_toArray, List.set_cons_zero, List.set_cons_succ, i64_w, i32_w]
   rfl
  refine pure_ (i := 4) (N := some 26) (v := ?_) (a' := ?_) #[false, true, true, false, true, false, false, false, false, false, false, false, false, false, false, false, false, false, false, false] rfl rfl (any_of HT_.out (by kernel_rfl)) (fun _ _ _ h => h) (Or.inl ⟨by rfl, ?_⟩) ?_ ?_
  rotate_left
  ·intro w'
   go_simp
   with_reducible rfl
  rotate_left
  ·simp only [Act.put, List.setIfInBounds_toArray, List.set_cons_zero, List.set_cons_succ, i64_w, i32_w]
   rfl
  refine pure_ (i := 7) (N := some 29) (v := ?_) (a' := ?_) #[false, true, true, false, true, false, false, true, false, false, false, false, false, false, false, false, false, false, false, false] rfl rfl (any_of HT_.out (by kernel_rfl)) (fun _ _ _ h => h) (Or.inl ⟨by rfl, ?_⟩) ?_ ?_
  rotate_left
  ·intro w'
   go_simp
   with_reducible rfl
  rotate_left
  ·simp only [Act.put, List.setIfInBounds_toArray, List.set_cons_zero, List.set_cons_succ, i64_w, i32_w]
   rfl
  refine pure_ (i := 9) (N := some 31) (v := ?_) (a' := ?_) #[false, true, true, false, true, false, false, true, false, true, false, false, false, false, false, false, false, false, false, false] rfl rfl (any_of HT_.out (by kernel_rfl)) (fun _ _ _ h => h) (Or.inl ⟨by rfl, ?_⟩) ?_ ?_
  rotate_left
  ·intro w'
   go_simp
   with_reducible rfl
  rotate_left
  ·simp only [Act.put, List.setIfInBounds_toArray, List.set_cons_zero, List.set_cons_succ, i64_w, i32_w]
   rfl
  refine pure_ (i := 12) (N := some 34) (v := ?_) (a' := ?_) #[false, true, true, false, true, false, false, true, false, true, false, false, true, false, false, false, false, false, false, false] rfl rfl (any_of HT_.out (by kernel_rfl)) (fun _ _ _ h => h) (Or.inl ⟨by rfl, ?_⟩) ?_ ?_
  rotate_left
  ·intro w'
   go_simp
   with_reducible rfl
  rotate_left
  ·simp only [Act.put, List.setIfInBounds_toArray, List.set_cons_zero, List.set_cons_succ, i64_w, i32_w]
   rfl
  refine pure_ (i := 15) (N := some 37) (v := ?_) (a' := ?_) #[false, true, true, false, true, false, false, true, false, true, false, false, true, false, false, true, false, false, false, false] rfl rfl (any_of HT_.out (by kernel_rfl)) (fun _ _ _ h => h) (Or.inl ⟨by rfl, ?_⟩) ?_ ?_
  rotate_left
  ·intro w'
   go_simp
   with_reducible rfl
  rotate_left
  ·simp only [Act.put, List.setIfInBounds_toArray, List.set_cons_zero, List.set_cons_succ, i64_w, i32_w]
   rfl
  refine inv_at [0, 3, 5, 6, 8, 10, 11, 13, 14, 16, 17, 18, 19] (fun a0_ b a w' => ∃ (v681 : Value), a = putSel a0_ b [(0, 22, .agg #[.string a3_0, .int .i64 a3_1, .string a3_2, .int .i64 a3_3, .int .i64 a3_4, .string a3_5]), (3, 25, .int .i64 a1_7), (5, 27, .string a1_14), (6, 28, .agg #[.string t674, .int .i64 t675, .string t676, .int .i64 t677, .int .i64 t678, .string t679]), (8, 30, .string a1_12), (10, 32, .slice A0_10 l0_10.length c0_10), (11, 33, .int .i64 (l0_10.length : Int)), (13, 35, v681), (14, 36, .string t683), (16, 38, .int .i64 (wrap64 (t667 + 1))), (18, 9, .string t683), (19, 10, .int .i64 (wrap64 (t667 + 1)))] ∧ (w'.heap[gb663]? = some (.cells #[.int .i64 a0_0, .int .i64 a0_1, .int .i64 a0_2, .int .i64 a0_3, .int .i64 a0_4, .int .i64 a0_5, .int .i64 a0_6, .int .i64 a0_7, .int .i64 a0_8, .int .i64 a0_9, .slice A0_10 l0_10.length c0_10] 24 (0, 0))) ∧ (w'.heap[gb664]? = some (.cells #[.int .i64 a1_0, .int .i64 a1_1, .int .i64 a1_2, .string a1_3, .int .i64 a1_4, .string a1_5, .string a1_6, .int .i64 a1_7, .int .i64 a1_8, .string a1_9, .string a1_10, .string a1_11, .string a1_12, .string a1_13, .string a1_14, .slice A1_15 l1_15.length c1_15, .slice A1_16 l1_16.length c1_16, .slice A1_17 l1_17.length c1_17, .int .i64 a1_18, .int .i64 a1_19, .int .i64 a1_20, .int .i64 a1_21, .int .i64 a1_22, .int .i64 a1_23] 44 (0, 0))) ∧ (w'.heap[gb665]? = some (.cells #[.string a3_0, .int .i64 a3_1, .string a3_2, .int .i64 a3_3, .int .i64 a3_4, .string a3_5] 76 (0, 0))) ∧ (b 17 = false → w'.heap[gb666]? = some (.cells #[.string (⟨#[]⟩ : ByteArray), .int .i64 0, .string (⟨#[]⟩ : ByteArray), .int .i64 0, .int .i64 0, .string (⟨#[]⟩ : ByteArray)] 76 (0, 0))) ∧ (Below w.heap.size w w') ∧ (b 13 = true → Kd.R (Kd.int .i64) 3 w' w.heap.size (fun _ => True) v681 y680) ∧ (b 17 = true → w'.heap[gb666]? = some (.cells #[.string t674, .int .i64 t675, .string t676, .int .i64 t677, .int .i64 t678, .string t679] 76 (0, 0)))) HT_.out HW_.out (by kernel_rfl) (by kernel_rfl) ?_ ?_ ?_
  ·exact ⟨.bool false, by simp only [putSel, Bool.false_eq_true, if_false], BK663.out, BK664.out, BK665.out, fun _ => BK666.out, HB.out, fun h_ => absurd h_ (by decide), fun h_ => absurd h_ (by decide)⟩
  ·skip
   clear BK663 BK664 BK665 BK666 HB
   refine steps_cons ?_ ?_
   ·rintro b a w' ⟨v681, ha, Q_BK663, Q_BK664, Q_BK665, Q_BK666, Q_HB, Q_HO682, Q_BK666_e17⟩ hb_ hon hoff
    refine ⟨_, rfl, fun K hK => ?_⟩
    have e7 : a.tmps[7]? = some (.pointer (some ⟨gb665, 0, none⟩)) := by rw [ha]; exact (putSel_off rfl).trans rfl
    replace ha := Aside0.mk ha
    have BK663 := Aside0.mk Q_BK663
    have BK664 := Aside0.mk Q_BK664
    have BK665 := Aside0.mk Q_BK665
    have BK666 := Aside0.mk (Q_BK666 (hoff 17 (by kernel_rfl)))
    have HB := Aside0.mk Q_HB
    have hc0_ : w'.cell? ⟨gb665, 0, none⟩ = some (.string a3_0) := (blk_cell BK665.out 0).trans rfl
    have hc1_ : w'.cell? ⟨gb665, 1, none⟩ = some (.int .i64 a3_1) := (blk_cell BK665.out 1).trans rfl
    have hc2_ : w'.cell? ⟨gb665, 2, none⟩ = some (.string a3_2) := (blk_cell BK665.out 2).trans rfl
    have hc3_ : w'.cell? ⟨gb665, 3, none⟩ = some (.int .i64 a3_3) := (blk_cell BK665.out 3).trans rfl
    have hc4_ : w'.cell? ⟨gb665, 4, none⟩ = some (.int .i64 a3_4) := (blk_cell BK665.out 4).trans rfl
    have hc5_ : w'.cell? ⟨gb665, 5, none⟩ = some (.string a3_5) := (blk_cell BK665.out 5).trans rfl
    refine value_ (w1 := w') (v := .agg #[.string a3_0, .int .i64 a3_1, .string a3_2, .int .i64 a3_3, .int .i64 a3_4, .string a3_5]) (by rfl) rfl ?_ ?_
    ·go_simp
     (try simp only [i64_w])
     try rfl
    refine hK.out _ _ ⟨v681, (by rw [ha.out]; exact putSel_upk 0 hb_ rfl rfl rfl), Q_BK663, Q_BK664, Q_BK665, Q_BK666, Q_HB, Q_HO682, fun h0_ => absurd ((hoff 17 (by kernel_rfl)).symm.trans h0_) (by decide)⟩
   refine steps_cons ?_ ?_
   ·rintro b a w' ⟨v681, ha, Q_BK663, Q_BK664, Q_BK665, Q_BK666, Q_HB, Q_HO682, Q_BK666_e17⟩ hb_ hon hoff
    refine ⟨_, rfl, fun K hK => ?_⟩
    have e24 : a.tmps[24]? = some (.pointer (some ⟨gb664, 7, none⟩)) := by rw [ha]; exact (putSel_off rfl).trans rfl
    replace ha := Aside0.mk ha
    have BK663 := Aside0.mk Q_BK663
    have BK664 := Aside0.mk Q_BK664
    have BK665 := Aside0.mk Q_BK665
    have BK666 := Aside0.mk (Q_BK666 (hoff 17 (by kernel_rfl)))
    have HB := Aside0.mk Q_HB
    have hc0_ : w'.cell? ⟨gb664, 0, none⟩ = some (.int .i64 a1_0) := (blk_cell BK664.out 0).trans rfl
    have hc1_ : w'.cell? ⟨gb664, 1, none⟩ = some (.int .i64 a1_1) := (blk_cell BK664.out 1).trans rfl
    have hc2_ : w'.cell? ⟨gb664, 2, none⟩ = some (.int .i64 a1_2) := (blk_cell BK664.out 2).trans rfl
    have hc3_ : w'.cell? ⟨gb664, 3, none⟩ = some (.string a1_3) := (blk_cell BK664.out 3).trans rfl
    have hc4_ : w'.cell? ⟨gb664, 4, none⟩ = some (.int .i64 a1_4) := (blk_cell BK664.out 4).trans rfl
    have hc5_ : w'.cell? ⟨gb664, 5, none⟩ = some (.string a1_5) := (blk_cell BK664.out 5).trans rfl
    have hc6_ : w'.cell? ⟨gb664, 6, none⟩ = some (.string a1_6) := (blk_cell BK664.out 6).trans rfl
    have hc7_ : w'.cell? ⟨gb664, 7, none⟩ = some (.int .i64 a1_7) := (blk_cell BK664.out 7).trans rfl
    have hc8_ : w'.cell? ⟨gb664, 8, none⟩ = some (.int .i64 a1_8) := (blk_cell BK664.out 8).trans rfl
    have hc9_ : w'.cell? ⟨gb664, 9, none⟩ = some (.string a1_9) := (blk_cell BK664.out 9).trans rfl
    have hc10_ : w'.cell? ⟨gb664, 10, none⟩ = some (.string a1_10) := (blk_cell BK664.out 10).trans rfl
    have hc11_ : w'.cell? ⟨gb664, 11, none⟩ = some (.string a1_11) := (blk_cell BK664.out 11).trans rfl
    have hc12_ : w'.cell? ⟨gb664, 12, none⟩ = some (.string a1_12) := (blk_cell BK664.out 12).trans rfl
    have hc13_ : w'.cell? ⟨gb664, 13, none⟩ = some (.string a1_13) := (blk_cell BK664.out 13).trans rfl
    have hc14_ : w'.cell? ⟨gb664, 14, none⟩ = some (.string a1_14) := (blk_cell BK664.out 14).trans rfl
    have hc15_ : w'.cell? ⟨gb664, 15, none⟩ = some (.slice A1_15 l1_15.length c1_15) := (blk_cell BK664.out 15).trans rfl
    have hc16_ : w'.cell? ⟨gb664, 16, none⟩ = some (.slice A1_16 l1_16.length c1_16) := (blk_cell BK664.out 16).trans rfl
    have hc17_ : w'.cell? ⟨gb664, 17, none⟩ = some (.slice A1_17 l1_17.length c1_17) := (blk_cell BK664.out 17).trans rfl
    have hc18_ : w'.cell? ⟨gb664, 18, none⟩ = some (.int .i64 a1_18) := (blk_cell BK664.out 18).trans rfl
    have hc19_ : w'.cell? ⟨gb664, 19, none⟩ = some (.int .i64 a1_19) := (blk_cell BK664.out 19).trans rfl
    have hc20_ : w'.cell? ⟨gb664, 20, none⟩ = some (.int .i64 a1_20) := (blk_cell BK664.out 20).trans rfl
    have hc21_ : w'.cell? ⟨gb664, 21, none⟩ = some (.int .i64 a1_21) := (blk_cell BK664.out 21).trans rfl
    have hc22_ : w'.cell? ⟨gb664, 22, none⟩ = some (.int .i64 a1_22) := (blk_cell BK664.out 22).trans rfl
    have hc23_ : w'.cell? ⟨gb664, 23, none⟩ = some (.int .i64 a1_23) := (blk_cell BK664.out 23).trans rfl
    refine value_ (w1 := w') (v := .int .i64 a1_7) (by rfl) rfl ?_ ?_
    ·go_simp
     (try simp only [i64_w])
     try rfl
    refine hK.out _ _ ⟨v681, (by rw [ha.out]; exact putSel_upk 1 hb_ rfl rfl rfl), Q_BK663, Q_BK664, Q_BK665, Q_BK666, Q_HB, Q_HO682, fun h0_ => absurd ((hoff 17 (by kernel_rfl)).symm.trans h0_) (by decide)⟩
   refine steps_cons ?_ ?_
   ·rintro b a w' ⟨v681, ha, Q_BK663, Q_BK664, Q_BK665, Q_BK666, Q_HB, Q_HO682, Q_BK666_e17⟩ hb_ hon hoff
    refine ⟨_, rfl, fun K hK => ?_⟩
    have e26 : a.tmps[26]? = some (.pointer (some ⟨gb664, 14, none⟩)) := by rw [ha]; exact (putSel_off rfl).trans rfl
    replace ha := Aside0.mk ha
    have BK663 := Aside0.mk Q_BK663
    have BK664 := Aside0.mk Q_BK664
    have BK665 := Aside0.mk Q_BK665
    have BK666 := Aside0.mk (Q_BK666 (hoff 17 (by kernel_rfl)))
    have HB := Aside0.mk Q_HB
    have hc0_ : w'.cell? ⟨gb664, 0, none⟩ = some (.int .i64 a1_0) := (blk_cell BK664.out 0).trans rfl
    have hc1_ : w'.cell? ⟨gb664, 1, none⟩ = some (.int .i64 a1_1) := (blk_cell BK664.out 1).trans rfl
    have hc2_ : w'.cell? ⟨gb664, 2, none⟩ = some (.int .i64 a1_2) := (blk_cell BK664.out 2).trans rfl
    have hc3_ : w'.cell? ⟨gb664, 3, none⟩ = some (.string a1_3) := (blk_cell BK664.out 3).trans rfl
    have hc4_ : w'.cell? ⟨gb664, 4, none⟩ = some (.int .i64 a1_4) := (blk_cell BK664.out 4).trans rfl
    have hc5_ : w'.cell? ⟨gb664, 5, none⟩ = some (.string a1_5) := (blk_cell BK664.out 5).trans rfl
    have hc6_ : w'.cell? ⟨gb664, 6, none⟩ = some (.string a1_6) := (blk_cell BK664.out 6).trans rfl
    have hc7_ : w'.cell? ⟨gb664, 7, none⟩ = some (.int .i64 a1_7) := (blk_cell BK664.out 7).trans rfl
    have hc8_ : w'.cell? ⟨gb664, 8, none⟩ = some (.int .i64 a1_8) := (blk_cell BK664.out 8).trans rfl
    have hc9_ : w'.cell? ⟨gb664, 9, none⟩ = some (.string a1_9) := (blk_cell BK664.out 9).trans rfl
    have hc10_ : w'.cell? ⟨gb664, 10, none⟩ = some (.string a1_10) := (blk_cell BK664.out 10).trans rfl
    have hc11_ : w'.cell? ⟨gb664, 11, none⟩ = some (.string a1_11) := (blk_cell BK664.out 11).trans rfl
    have hc12_ : w'.cell? ⟨gb664, 12, none⟩ = some (.string a1_12) := (blk_cell BK664.out 12).trans rfl
    have hc13_ : w'.cell? ⟨gb664, 13, none⟩ = some (.string a1_13) := (blk_cell BK664.out 13).trans rfl
    have hc14_ : w'.cell? ⟨gb664, 14, none⟩ = some (.string a1_14) := (blk_cell BK664.out 14).trans rfl
    have hc15_ : w'.cell? ⟨gb664, 15, none⟩ = some (.slice A1_15 l1_15.length c1_15) := (blk_cell BK664.out 15).trans rfl
    have hc16_ : w'.cell? ⟨gb664, 16, none⟩ = some (.slice A1_16 l1_16.length c1_16) := (blk_cell BK664.out 16).trans rfl
    have hc17_ : w'.cell? ⟨gb664, 17, none⟩ = some (.slice A1_17 l1_17.length c1_17) := (blk_cell BK664.out 17).trans rfl
    have hc18_ : w'.cell? ⟨gb664, 18, none⟩ = some (.int .i64 a1_18) := (blk_cell BK664.out 18).trans rfl
    have hc19_ : w'.cell? ⟨gb664, 19, none⟩ = some (.int .i64 a1_19) := (blk_cell BK664.out 19).trans rfl
    have hc20_ : w'.cell? ⟨gb664, 20, none⟩ = some (.int .i64 a1_20) := (blk_cell BK664.out 20).trans rfl
    have hc21_ : w'.cell? ⟨gb664, 21, none⟩ = some (.int .i64 a1_21) := (blk_cell BK664.out 21).trans rfl
    have hc22_ : w'.cell? ⟨gb664, 22, none⟩ = some (.int .i64 a1_22) := (blk_cell BK664.out 22).trans rfl
    have hc23_ : w'.cell? ⟨gb664, 23, none⟩ = some (.int .i64 a1_23) := (blk_cell BK664.out 23).trans rfl
    refine value_ (w1 := w') (v := .string a1_14) (by rfl) rfl ?_ ?_
    ·go_simp
     (try simp only [i64_w])
     try rfl
    refine hK.out _ _ ⟨v681, (by rw [ha.out]; exact putSel_upk 2 hb_ rfl rfl rfl), Q_BK663, Q_BK664, Q_BK665, Q_BK666, Q_HB, Q_HO682, fun h0_ => absurd ((hoff 17 (by kernel_rfl)).symm.trans h0_) (by decide)⟩
   refine steps_cons ?_ ?_
   ·rintro b a w' ⟨v681, ha, Q_BK663, Q_BK664, Q_BK665, Q_BK666, Q_HB, Q_HO682, Q_BK666_e17⟩ hb_ hon hoff
    refine ⟨_, rfl, fun K hK => ?_⟩
    have e22 : a.tmps[22]? = some (.agg #[.string a3_0, .int .i64 a3_1, .string a3_2, .int .i64 a3_3, .int .i64 a3_4, .string a3_5]) := by rw [ha]; exact putSel_on (e := (0, 22, .agg #[.string a3_0, .int .i64 a3_1, .string a3_2, .int .i64 a3_3, .int .i64 a3_4, .string a3_5])) 0 rfl rfl (hon 0 (by kernel_rfl)) rfl
    have e23 : a.tmps[23]? = some (.int .i64 t667) := by rw [ha]; exact (putSel_off rfl).trans rfl
    have e25 : a.tmps[25]? = some (.int .i64 a1_7) := by rw [ha]; exact putSel_on (e := (3, 25, .int .i64 a1_7)) 1 rfl rfl (hon 3 (by kernel_rfl)) rfl
    have e27 : a.tmps[27]? = some (.string a1_14) := by rw [ha]; exact putSel_on (e := (5, 27, .string a1_14)) 2 rfl rfl (hon 5 (by kernel_rfl)) rfl
    replace ha := Aside0.mk ha
    have BK663 := Aside0.mk Q_BK663
    have BK664 := Aside0.mk Q_BK664
    have BK665 := Aside0.mk Q_BK665
    have BK666 := Aside0.mk (Q_BK666 (hoff 17 (by kernel_rfl)))
    have HB := Aside0.mk Q_HB
    refine goes_ Try.func105 (by kernel_rfl) rfl #[.agg #[.string a3_0, .int .i64 a3_1, .string a3_2, .int .i64 a3_3, .int .i64 a3_4, .string a3_5], .int .i64 t667, .int .i64 a1_7, .string a1_14] (by rfl) rfl rfl (by first | (simp only [List.map_toArray, List.map_cons, List.map_nil, Act.eval, Array.getD_eq_getD_getElem?, Option.getD_some, e22, e23, e25, e27]; done) | (simp only [List.map_toArray, List.map_cons, List.map_nil, Act.eval, Array.getD_eq_getD_getElem?, Option.getD_some, e22, e23, e25, e27]; rfl)) ?_
    with_reducible refine (bellwetherref10_Carry.calls a3_0 a3_1 a3_2 a3_3 a3_4 a3_5 t667 a1_7 a1_14 t674 t675 t676 t677 t678 t679 _ A28.out).mono ?_
    rintro e w43 ⟨rfl, hb⟩
    refine ⟨_, rfl, ?_⟩
    have n0_ := Aside0.mk (blk_below BK663.out hb)
    have n1_ := Aside0.mk (blk_below BK664.out hb)
    have n2_ := Aside0.mk (blk_below BK665.out hb)
    have n3_ := Aside0.mk (blk_below BK666.out hb)
    have n4_ := Aside0.mk (below_step HB.out hb)
    have z_HO682 := fun (h0_ : b 13 = true) => (show Kd.R (Kd.int .i64) 3 w43 w.heap.size (fun _ => True) v681 y680 from by first | exact (Kd.R_below (by (with_reducible repeat (first | apply Kd.R_alloc | apply Kd.R_drewN | apply Kd.R_drew)); exact (Q_HO682 h0_)) hb) | exact Kd.R_mono (Kd.R_below (by (with_reducible repeat (first | apply Kd.R_alloc | apply Kd.R_drewN | apply Kd.R_drew)); exact (Q_HO682 h0_)) hb) (fun _ h_ => by first | trivial | exact h_ | exact h_.1))
    clear BK663
    clear BK664
    clear BK665
    clear BK666
    clear HB
    have BK663 := n0_
    have BK664 := n1_
    have BK665 := n2_
    have BK666 := n3_
    have HB := n4_
    clear n0_ n1_ n2_ n3_ n4_
    (try clear hb)
    (try clear hb2)
    (try clear hk)
    (try clear hi)
    refine hK.out _ _ ⟨v681, (by rw [ha.out]; exact putSel_upk 3 hb_ rfl rfl rfl), (by (with_reducible repeat (first | refine blk_drewN ?_ _ | refine blk_drew ?_ | refine blk_alloc ?_ _)); exact BK663.out), (by (with_reducible repeat (first | refine blk_drewN ?_ _ | refine blk_drew ?_ | refine blk_alloc ?_ _)); exact BK664.out), (by (with_reducible repeat (first | refine blk_drewN ?_ _ | refine blk_drew ?_ | refine blk_alloc ?_ _)); exact BK665.out), fun _ => (by (with_reducible repeat (first | refine blk_drewN ?_ _ | refine blk_drew ?_ | refine blk_alloc ?_ _)); exact BK666.out), (by repeat (first | (with_reducible first | exact HB.out | apply below_alloc | apply pw_below_drewN | apply below_drew1 | refine below_set ?_ GE663.out | refine below_set ?_ GE664.out | refine below_set ?_ GE665.out | refine below_set ?_ GE666.out) | exact HB.out)), z_HO682, fun h0_ => absurd ((hoff 17 (by kernel_rfl)).symm.trans h0_) (by decide)⟩
   refine steps_cons ?_ ?_
   ·rintro b a w' ⟨v681, ha, Q_BK663, Q_BK664, Q_BK665, Q_BK666, Q_HB, Q_HO682, Q_BK666_e17⟩ hb_ hon hoff
    refine ⟨_, rfl, fun K hK => ?_⟩
    have e29 : a.tmps[29]? = some (.pointer (some ⟨gb664, 12, none⟩)) := by rw [ha]; exact (putSel_off rfl).trans rfl
    replace ha := Aside0.mk ha
    have BK663 := Aside0.mk Q_BK663
    have BK664 := Aside0.mk Q_BK664
    have BK665 := Aside0.mk Q_BK665
    have BK666 := Aside0.mk (Q_BK666 (hoff 17 (by kernel_rfl)))
    have HB := Aside0.mk Q_HB
    have hc0_ : w'.cell? ⟨gb664, 0, none⟩ = some (.int .i64 a1_0) := (blk_cell BK664.out 0).trans rfl
    have hc1_ : w'.cell? ⟨gb664, 1, none⟩ = some (.int .i64 a1_1) := (blk_cell BK664.out 1).trans rfl
    have hc2_ : w'.cell? ⟨gb664, 2, none⟩ = some (.int .i64 a1_2) := (blk_cell BK664.out 2).trans rfl
    have hc3_ : w'.cell? ⟨gb664, 3, none⟩ = some (.string a1_3) := (blk_cell BK664.out 3).trans rfl
    have hc4_ : w'.cell? ⟨gb664, 4, none⟩ = some (.int .i64 a1_4) := (blk_cell BK664.out 4).trans rfl
    have hc5_ : w'.cell? ⟨gb664, 5, none⟩ = some (.string a1_5) := (blk_cell BK664.out 5).trans rfl
    have hc6_ : w'.cell? ⟨gb664, 6, none⟩ = some (.string a1_6) := (blk_cell BK664.out 6).trans rfl
    have hc7_ : w'.cell? ⟨gb664, 7, none⟩ = some (.int .i64 a1_7) := (blk_cell BK664.out 7).trans rfl
    have hc8_ : w'.cell? ⟨gb664, 8, none⟩ = some (.int .i64 a1_8) := (blk_cell BK664.out 8).trans rfl
    have hc9_ : w'.cell? ⟨gb664, 9, none⟩ = some (.string a1_9) := (blk_cell BK664.out 9).trans rfl
    have hc10_ : w'.cell? ⟨gb664, 10, none⟩ = some (.string a1_10) := (blk_cell BK664.out 10).trans rfl
    have hc11_ : w'.cell? ⟨gb664, 11, none⟩ = some (.string a1_11) := (blk_cell BK664.out 11).trans rfl
    have hc12_ : w'.cell? ⟨gb664, 12, none⟩ = some (.string a1_12) := (blk_cell BK664.out 12).trans rfl
    have hc13_ : w'.cell? ⟨gb664, 13, none⟩ = some (.string a1_13) := (blk_cell BK664.out 13).trans rfl
    have hc14_ : w'.cell? ⟨gb664, 14, none⟩ = some (.string a1_14) := (blk_cell BK664.out 14).trans rfl
    have hc15_ : w'.cell? ⟨gb664, 15, none⟩ = some (.slice A1_15 l1_15.length c1_15) := (blk_cell BK664.out 15).trans rfl
    have hc16_ : w'.cell? ⟨gb664, 16, none⟩ = some (.slice A1_16 l1_16.length c1_16) := (blk_cell BK664.out 16).trans rfl
    have hc17_ : w'.cell? ⟨gb664, 17, none⟩ = some (.slice A1_17 l1_17.length c1_17) := (blk_cell BK664.out 17).trans rfl
    have hc18_ : w'.cell? ⟨gb664, 18, none⟩ = some (.int .i64 a1_18) := (blk_cell BK664.out 18).trans rfl
    have hc19_ : w'.cell? ⟨gb664, 19, none⟩ = some (.int .i64 a1_19) := (blk_cell BK664.out 19).trans rfl
    have hc20_ : w'.cell? ⟨gb664, 20, none⟩ = some (.int .i64 a1_20) := (blk_cell BK664.out 20).trans rfl
    have hc21_ : w'.cell? ⟨gb664, 21, none⟩ = some (.int .i64 a1_21) := (blk_cell BK664.out 21).trans rfl
    have hc22_ : w'.cell? ⟨gb664, 22, none⟩ = some (.int .i64 a1_22) := (blk_cell BK664.out 22).trans rfl
    have hc23_ : w'.cell? ⟨gb664, 23, none⟩ = some (.int .i64 a1_23) := (blk_cell BK664.out 23).trans rfl
    refine value_ (w1 := w') (v := .string a1_12) (by rfl) rfl ?_ ?_
    ·go_simp
     (try simp only [i64_w])
     try rfl
    refine hK.out _ _ ⟨v681, (by rw [ha.out]; exact putSel_upk 4 hb_ rfl rfl rfl), Q_BK663, Q_BK664, Q_BK665, Q_BK666, Q_HB, Q_HO682, fun h0_ => absurd ((hoff 17 (by kernel_rfl)).symm.trans h0_) (by decide)⟩
   refine steps_cons ?_ ?_
   ·rintro b a w' ⟨v681, ha, Q_BK663, Q_BK664, Q_BK665, Q_BK666, Q_HB, Q_HO682, Q_BK666_e17⟩ hb_ hon hoff
    refine ⟨_, rfl, fun K hK => ?_⟩
    have e31 : a.tmps[31]? = some (.pointer (some ⟨gb663, 10, none⟩)) := by rw [ha]; exact (putSel_off rfl).trans rfl
    replace ha := Aside0.mk ha
    have BK663 := Aside0.mk Q_BK663
    have BK664 := Aside0.mk Q_BK664
    have BK665 := Aside0.mk Q_BK665
    have BK666 := Aside0.mk (Q_BK666 (hoff 17 (by kernel_rfl)))
    have HB := Aside0.mk Q_HB
    have hc0_ : w'.cell? ⟨gb663, 0, none⟩ = some (.int .i64 a0_0) := (blk_cell BK663.out 0).trans rfl
    have hc1_ : w'.cell? ⟨gb663, 1, none⟩ = some (.int .i64 a0_1) := (blk_cell BK663.out 1).trans rfl
    have hc2_ : w'.cell? ⟨gb663, 2, none⟩ = some (.int .i64 a0_2) := (blk_cell BK663.out 2).trans rfl
    have hc3_ : w'.cell? ⟨gb663, 3, none⟩ = some (.int .i64 a0_3) := (blk_cell BK663.out 3).trans rfl
    have hc4_ : w'.cell? ⟨gb663, 4, none⟩ = some (.int .i64 a0_4) := (blk_cell BK663.out 4).trans rfl
    have hc5_ : w'.cell? ⟨gb663, 5, none⟩ = some (.int .i64 a0_5) := (blk_cell BK663.out 5).trans rfl
    have hc6_ : w'.cell? ⟨gb663, 6, none⟩ = some (.int .i64 a0_6) := (blk_cell BK663.out 6).trans rfl
    have hc7_ : w'.cell? ⟨gb663, 7, none⟩ = some (.int .i64 a0_7) := (blk_cell BK663.out 7).trans rfl
    have hc8_ : w'.cell? ⟨gb663, 8, none⟩ = some (.int .i64 a0_8) := (blk_cell BK663.out 8).trans rfl
    have hc9_ : w'.cell? ⟨gb663, 9, none⟩ = some (.int .i64 a0_9) := (blk_cell BK663.out 9).trans rfl
    have hc10_ : w'.cell? ⟨gb663, 10, none⟩ = some (.slice A0_10 l0_10.length c0_10) := (blk_cell BK663.out 10).trans rfl
    refine value_ (w1 := w') (v := .slice A0_10 l0_10.length c0_10) (by rfl) rfl ?_ ?_
    ·go_simp
     (try simp only [i64_w])
     try rfl
    refine hK.out _ _ ⟨v681, (by rw [ha.out]; exact putSel_upk 5 hb_ rfl rfl rfl), Q_BK663, Q_BK664, Q_BK665, Q_BK666, Q_HB, Q_HO682, fun h0_ => absurd ((hoff 17 (by kernel_rfl)).symm.trans h0_) (by decide)⟩
   refine steps_cons ?_ ?_
   ·rintro b a w' ⟨v681, ha, Q_BK663, Q_BK664, Q_BK665, Q_BK666, Q_HB, Q_HO682, Q_BK666_e17⟩ hb_ hon hoff
    refine ⟨_, rfl, fun K hK => ?_⟩
    have e32 : a.tmps[32]? = some (.slice A0_10 l0_10.length c0_10) := by rw [ha]; exact putSel_on (e := (10, 32, .slice A0_10 l0_10.length c0_10)) 5 rfl rfl (hon 10 (by kernel_rfl)) rfl
    replace ha := Aside0.mk ha
    have BK663 := Aside0.mk Q_BK663
    have BK664 := Aside0.mk Q_BK664
    have BK665 := Aside0.mk Q_BK665
    have BK666 := Aside0.mk (Q_BK666 (hoff 17 (by kernel_rfl)))
    have HB := Aside0.mk Q_HB
    refine value_ (w1 := w') (v := .int .i64 (l0_10.length : Int)) (by rfl) rfl ?_ ?_
    ·go_simp
     (try simp only [i64_w])
     try rfl
    refine hK.out _ _ ⟨v681, (by rw [ha.out]; exact putSel_upk 6 hb_ rfl rfl rfl), Q_BK663, Q_BK664, Q_BK665, Q_BK666, Q_HB, Q_HO682, fun h0_ => absurd ((hoff 17 (by kernel_rfl)).symm.trans h0_) (by decide)⟩
   refine steps_cons ?_ ?_
   ·rintro b a w' ⟨v681, ha, Q_BK663, Q_BK664, Q_BK665, Q_BK666, Q_HB, Q_HO682, Q_BK666_e17⟩ hb_ hon hoff
    refine ⟨_, rfl, fun K hK => ?_⟩
    have e34 : a.tmps[34]? = some (.int .i64 t667) := by rw [ha]; exact (putSel_off rfl).trans rfl
    replace ha := Aside0.mk ha
    have BK663 := Aside0.mk Q_BK663
    have BK664 := Aside0.mk Q_BK664
    have BK665 := Aside0.mk Q_BK665
    have BK666 := Aside0.mk (Q_BK666 (hoff 17 (by kernel_rfl)))
    have HB := Aside0.mk Q_HB
    refine Kd.R_lit_step (Kd.int .i64) _ 3 ?hg (N := 35) ?hd (xs := ([t667] : List Int)) (inner := [.int .i64 t667]) (ok := fun _ => True) (okp := fun _ => True) ?hr ?hp (fun _ hk => hk) trivial (Below.refl _ _) (Nat.le_refl _) (by simp) ?_; (case hd => rfl); (case hg => rfl); (case hr => first | (go_simp; done) | (go_simp; rfl)); (case hp => exact (Reps.one (show Kd.M (Kd.int .i64) _ _ _ t667 [.int .i64 t667] from rfl) (Reps.none _ _)))
    intro v681 w43 ho44 hb hg_ hnew_
    clear hg_ hnew_
    (first | rw [← Ny680.out] at ho44 | (simp only [Int.reduceToNat] at ho44; rw [← Ny680.out] at ho44))
    have n0_ := Aside0.mk (Kd.R_lower ho44 (below_size HB.out))
    have n1_ := Aside0.mk (blk_below BK663.out hb)
    have n2_ := Aside0.mk (blk_below BK664.out hb)
    have n3_ := Aside0.mk (blk_below BK665.out hb)
    have n4_ := Aside0.mk (blk_below BK666.out hb)
    have n5_ := Aside0.mk (below_step HB.out hb)
    clear BK663
    clear BK664
    clear BK665
    clear BK666
    clear HB
    have HO682 := n0_
    have BK663 := n1_
    have BK664 := n2_
    have BK665 := n3_
    have BK666 := n4_
    have HB := n5_
    clear n0_ n1_ n2_ n3_ n4_ n5_
    clear hb ho44
    refine hK.out _ _ ⟨v681, (by rw [ha.out]; exact putSel_upk 7 hb_ rfl rfl rfl), (by (with_reducible repeat (first | refine blk_drewN ?_ _ | refine blk_drew ?_ | refine blk_alloc ?_ _)); exact BK663.out), (by (with_reducible repeat (first | refine blk_drewN ?_ _ | refine blk_drew ?_ | refine blk_alloc ?_ _)); exact BK664.out), (by (with_reducible repeat (first | refine blk_drewN ?_ _ | refine blk_drew ?_ | refine blk_alloc ?_ _)); exact BK665.out), fun _ => (by (with_reducible repeat (first | refine blk_drewN ?_ _ | refine blk_drew ?_ | refine blk_alloc ?_ _)); exact BK666.out), (by repeat (first | (with_reducible first | exact HB.out | apply below_alloc | apply pw_below_drewN | apply below_drew1 | refine below_set ?_ GE663.out | refine below_set ?_ GE664.out | refine below_set ?_ GE665.out | refine below_set ?_ GE666.out) | exact HB.out)), fun _ => (by (with_reducible repeat (first | apply Kd.R_alloc | apply Kd.R_drewN | apply Kd.R_drew)); exact HO682.out), fun h0_ => absurd ((hoff 17 (by kernel_rfl)).symm.trans h0_) (by decide)⟩
   refine steps_cons ?_ ?_
   ·rintro b a w' ⟨v681, ha, Q_BK663, Q_BK664, Q_BK665, Q_BK666, Q_HB, Q_HO682, Q_BK666_e17⟩ hb_ hon hoff
    refine ⟨_, rfl, fun K hK => ?_⟩
    have e30 : a.tmps[30]? = some (.string a1_12) := by rw [ha]; exact putSel_on (e := (8, 30, .string a1_12)) 4 rfl rfl (hon 8 (by kernel_rfl)) rfl
    have e33 : a.tmps[33]? = some (.int .i64 (l0_10.length : Int)) := by rw [ha]; exact putSel_on (e := (11, 33, .int .i64 (l0_10.length : Int))) 6 rfl rfl (hon 11 (by kernel_rfl)) rfl
    have e35 : a.tmps[35]? = some (v681) := by rw [ha]; exact putSel_on (e := (13, 35, v681)) 7 rfl rfl (hon 13 (by kernel_rfl)) rfl
    replace ha := Aside0.mk ha
    have BK663 := Aside0.mk Q_BK663
    have BK664 := Aside0.mk Q_BK664
    have BK665 := Aside0.mk Q_BK665
    have BK666 := Aside0.mk (Q_BK666 (hoff 17 (by kernel_rfl)))
    have HB := Aside0.mk Q_HB
    have HO682 := Aside0.mk (Q_HO682 (hon 13 (by kernel_rfl)))
    obtain ⟨Ao47, co47, eo47⟩ := Kd.R_slice HO682.out
    (first | subst eo47 | (injection eo47 with f1_ f2_ f3_; have f4_ := f1_.symm; have f5_ := f3_.symm; clear f1_ f2_ f3_; subst f4_; subst f5_))
    refine goes_ Try.func50 (by kernel_rfl) rfl #[.string a1_12, .int .i64 (l0_10.length : Int), .slice Ao47 y680.length co47] (by rfl) rfl rfl (by first | (simp only [List.map_toArray, List.map_cons, List.map_nil, Act.eval, Array.getD_eq_getD_getElem?, Option.getD_some, e30, e33, e35]; done) | (simp only [List.map_toArray, List.map_cons, List.map_nil, Act.eval, Array.getD_eq_getD_getElem?, Option.getD_some, e30, e33, e35]; rfl)) ?_
    with_reducible refine (bellwetherref23_Mark.calls k a1_12 (l0_10.length : Int) _ _ y680 t683 _ ?side1 ?side2 A29.out).mono ?_
    (case side1 => exact (Kd.R_reads' HO682.out).2.2)
    (case side2 => exact (Kd.R_reads' HO682.out).2.1)
    rintro e w48 ⟨rfl, hb⟩
    refine ⟨_, rfl, ?_⟩
    have n0_ := Aside0.mk (Kd.R_below HO682.out hb)
    have n1_ := Aside0.mk (blk_below BK663.out hb)
    have n2_ := Aside0.mk (blk_below BK664.out hb)
    have n3_ := Aside0.mk (blk_below BK665.out hb)
    have n4_ := Aside0.mk (blk_below BK666.out hb)
    have n5_ := Aside0.mk (below_step HB.out hb)
    clear HO682
    clear BK663
    clear BK664
    clear BK665
    clear BK666
    clear HB
    have HO682 := n0_
    have BK663 := n1_
    have BK664 := n2_
    have BK665 := n3_
    have BK666 := n4_
    have HB := n5_
    clear n0_ n1_ n2_ n3_ n4_ n5_
    (try clear hb)
    (try clear hb2)
    (try clear hk)
    (try clear hi)
    refine hK.out _ _ ⟨.slice Ao47 y680.length co47, (by rw [ha.out]; exact putSel_upk 8 hb_ rfl rfl rfl), (by (with_reducible repeat (first | refine blk_drewN ?_ _ | refine blk_drew ?_ | refine blk_alloc ?_ _)); exact BK663.out), (by (with_reducible repeat (first | refine blk_drewN ?_ _ | refine blk_drew ?_ | refine blk_alloc ?_ _)); exact BK664.out), (by (with_reducible repeat (first | refine blk_drewN ?_ _ | refine blk_drew ?_ | refine blk_alloc ?_ _)); exact BK665.out), fun _ => (by (with_reducible repeat (first | refine blk_drewN ?_ _ | refine blk_drew ?_ | refine blk_alloc ?_ _)); exact BK666.out), (by repeat (first | (with_reducible first | exact HB.out | apply below_alloc | apply pw_below_drewN | apply below_drew1 | refine below_set ?_ GE663.out | refine below_set ?_ GE664.out | refine below_set ?_ GE665.out | refine below_set ?_ GE666.out) | exact HB.out)), fun _ => (by (with_reducible repeat (first | apply Kd.R_alloc | apply Kd.R_drewN | apply Kd.R_drew)); exact HO682.out), fun h0_ => absurd ((hoff 17 (by kernel_rfl)).symm.trans h0_) (by decide)⟩
   refine steps_cons ?_ ?_
   ·rintro b a w' ⟨v681, ha, Q_BK663, Q_BK664, Q_BK665, Q_BK666, Q_HB, Q_HO682, Q_BK666_e17⟩ hb_ hon hoff
    refine ⟨_, rfl, fun K hK => ?_⟩
    have e37 : a.tmps[37]? = some (.int .i64 t667) := by rw [ha]; exact (putSel_off rfl).trans rfl
    replace ha := Aside0.mk ha
    have BK663 := Aside0.mk Q_BK663
    have BK664 := Aside0.mk Q_BK664
    have BK665 := Aside0.mk Q_BK665
    have HB := Aside0.mk Q_HB
    refine value_ (w1 := w') (v := .int .i64 (wrap64 (t667 + 1))) (by rfl) rfl ?_ ?_
    ·go_simp
     (try simp only [i64_w])
     try rfl
    refine hK.out _ _ ⟨v681, (by rw [ha.out]; exact putSel_upk 9 hb_ rfl rfl rfl), Q_BK663, Q_BK664, Q_BK665, Q_BK666, Q_HB, Q_HO682, Q_BK666_e17⟩
   refine steps_cons ?_ ?_
   ·rintro b a w' ⟨v681, ha, Q_BK663, Q_BK664, Q_BK665, Q_BK666, Q_HB, Q_HO682, Q_BK666_e17⟩ hb_ hon hoff
    refine ⟨_, rfl, fun K hK => ?_⟩
    have e8 : a.tmps[8]? = some (.pointer (some ⟨gb666, 0, none⟩)) := by rw [ha]; exact (putSel_off rfl).trans rfl
    have e28 : a.tmps[28]? = some (.agg #[.string t674, .int .i64 t675, .string t676, .int .i64 t677, .int .i64 t678, .string t679]) := by rw [ha]; exact putSel_on (e := (6, 28, .agg #[.string t674, .int .i64 t675, .string t676, .int .i64 t677, .int .i64 t678, .string t679])) 3 rfl rfl (hon 6 (by kernel_rfl)) rfl
    replace ha := Aside0.mk ha
    have BK663 := Aside0.mk Q_BK663
    have BK664 := Aside0.mk Q_BK664
    have BK665 := Aside0.mk Q_BK665
    have BK666 := Aside0.mk (Q_BK666 hb_)
    have HB := Aside0.mk Q_HB
    have HO682 := Aside0.mk (Q_HO682 (hon 13 (by kernel_rfl)))
    have hs49 : w'.cell? ⟨gb666, 0, none⟩ = some (.string (⟨#[]⟩ : ByteArray)) := (blk_cell BK666.out 0).trans rfl
    have hfs49 := blk_frozen BK666.out 0
    have hns49_0 := NB663_666.out
    have hns49_1 := NB664_666.out
    have hns49_2 := NB665_666.out
    have hms49_0 := NB666_663.out
    have hms49_1 := NB666_664.out
    have hms49_2 := NB666_665.out
    have hs50 : w'.cell? ⟨gb666, 1, none⟩ = some (.int .i64 0) := (blk_cell BK666.out 1).trans rfl
    have hfs50 := blk_frozen BK666.out 1
    have hns50_0 := NB663_666.out
    have hns50_1 := NB664_666.out
    have hns50_2 := NB665_666.out
    have hms50_0 := NB666_663.out
    have hms50_1 := NB666_664.out
    have hms50_2 := NB666_665.out
    have hs51 : w'.cell? ⟨gb666, 2, none⟩ = some (.string (⟨#[]⟩ : ByteArray)) := (blk_cell BK666.out 2).trans rfl
    have hfs51 := blk_frozen BK666.out 2
    have hns51_0 := NB663_666.out
    have hns51_1 := NB664_666.out
    have hns51_2 := NB665_666.out
    have hms51_0 := NB666_663.out
    have hms51_1 := NB666_664.out
    have hms51_2 := NB666_665.out
    have hs52 : w'.cell? ⟨gb666, 3, none⟩ = some (.int .i64 0) := (blk_cell BK666.out 3).trans rfl
    have hfs52 := blk_frozen BK666.out 3
    have hns52_0 := NB663_666.out
    have hns52_1 := NB664_666.out
    have hns52_2 := NB665_666.out
    have hms52_0 := NB666_663.out
    have hms52_1 := NB666_664.out
    have hms52_2 := NB666_665.out
    have hs53 : w'.cell? ⟨gb666, 4, none⟩ = some (.int .i64 0) := (blk_cell BK666.out 4).trans rfl
    have hfs53 := blk_frozen BK666.out 4
    have hns53_0 := NB663_666.out
    have hns53_1 := NB664_666.out
    have hns53_2 := NB665_666.out
    have hms53_0 := NB666_663.out
    have hms53_1 := NB666_664.out
    have hms53_2 := NB666_665.out
    have hs54 : w'.cell? ⟨gb666, 5, none⟩ = some (.string (⟨#[]⟩ : ByteArray)) := (blk_cell BK666.out 5).trans rfl
    have hfs54 := blk_frozen BK666.out 5
    have hns54_0 := NB663_666.out
    have hns54_1 := NB664_666.out
    have hns54_2 := NB665_666.out
    have hms54_0 := NB666_663.out
    have hms54_1 := NB666_664.out
    have hms54_2 := NB666_665.out
    refine skip_ (w1 := ?_) (by rfl) rfl ?_ ?_
    rotate_left
    ·go_simp
     rfl
    refine hK.out _ _ ⟨v681, (by rw [ha.out]; exact putSel_none (v := undef) rfl), (by (iterate 6 ((with_reducible repeat (first | refine blk_drewN ?_ _ | refine blk_drew ?_ | refine blk_alloc ?_ _)); refine blk_far ?_ NB663_666.out _)); (with_reducible repeat (first | refine blk_drewN ?_ _ | refine blk_drew ?_ | refine blk_alloc ?_ _)); exact BK663.out), (by (iterate 6 ((with_reducible repeat (first | refine blk_drewN ?_ _ | refine blk_drew ?_ | refine blk_alloc ?_ _)); refine blk_far ?_ NB664_666.out _)); (with_reducible repeat (first | refine blk_drewN ?_ _ | refine blk_drew ?_ | refine blk_alloc ?_ _)); exact BK664.out), (by (iterate 6 ((with_reducible repeat (first | refine blk_drewN ?_ _ | refine blk_drew ?_ | refine blk_alloc ?_ _)); refine blk_far ?_ NB665_666.out _)); (with_reducible repeat (first | refine blk_drewN ?_ _ | refine blk_drew ?_ | refine blk_alloc ?_ _)); exact BK665.out), fun h0_ => absurd ((up_self b 17).symm.trans h0_) (by decide), (by repeat (first | (with_reducible first | exact HB.out | apply below_alloc | apply pw_below_drewN | apply below_drew1 | refine below_set ?_ GE663.out | refine below_set ?_ GE664.out | refine below_set ?_ GE665.out | refine below_set ?_ GE666.out) | exact HB.out)), fun _ => (by (with_reducible repeat (first | apply Kd.R_alloc | apply Kd.R_drewN | apply Kd.R_drew)); exact Kd.R_mono (Kd.R_far (p := ⟨gb666, 5, none⟩) (Kd.R_far (p := ⟨gb666, 4, none⟩) (Kd.R_far (p := ⟨gb666, 3, none⟩) (Kd.R_far (p := ⟨gb666, 2, none⟩) (Kd.R_far (p := ⟨gb666, 1, none⟩) (Kd.R_far (p := ⟨gb666, 0, none⟩) (Kd.R_types HO682.out BK666.out (by decide)) (fun _ hk => hk.2) (.string t674)) (fun _ hk => hk.2) (.int .i64 t675)) (fun _ hk => hk.2) (.string t676)) (fun _ hk => hk.2) (.int .i64 t677)) (fun _ hk => hk.2) (.int .i64 t678)) (fun _ hk => hk.2) (.string t679)) (fun _ hk => trivial)), fun _ => (by (with_reducible repeat (first | refine blk_drewN ?_ _ | refine blk_drew ?_ | refine blk_alloc ?_ _)); refine blk_put (cs := #[.string t674, .int .i64 t675, .string t676, .int .i64 t677, .int .i64 t678, .string (⟨#[]⟩ : ByteArray)]) ?_ 5 _ rfl; (with_reducible repeat (first | refine blk_drewN ?_ _ | refine blk_drew ?_ | refine blk_alloc ?_ _)); refine blk_put (cs := #[.string t674, .int .i64 t675, .string t676, .int .i64 t677, .int .i64 0, .string (⟨#[]⟩ : ByteArray)]) ?_ 4 _ rfl; (with_reducible repeat (first | refine blk_drewN ?_ _ | refine blk_drew ?_ | refine blk_alloc ?_ _)); refine blk_put (cs := #[.string t674, .int .i64 t675, .string t676, .int .i64 0, .int .i64 0, .string (⟨#[]⟩ : ByteArray)]) ?_ 3 _ rfl; (with_reducible repeat (first | refine blk_drewN ?_ _ | refine blk_drew ?_ | refine blk_alloc ?_ _)); refine blk_put (cs := #[.string t674, .int .i64 t675, .string (⟨#[]⟩ : ByteArray), .int .i64 0, .int .i64 0, .string (⟨#[]⟩ : ByteArray)]) ?_ 2 _ rfl; (with_reducible repeat (first | refine blk_drewN ?_ _ | refine blk_drew ?_ | refine blk_alloc ?_ _)); refine blk_put (cs := #[.string t674, .int .i64 0, .string (⟨#[]⟩ : ByteArray), .int .i64 0, .int .i64 0, .string (⟨#[]⟩ : ByteArray)]) ?_ 1 _ rfl; (with_reducible repeat (first | refine blk_drewN ?_ _ | refine blk_drew ?_ | refine blk_alloc ?_ _)); refine blk_put (cs := #[.string (⟨#[]⟩ : ByteArray), .int .i64 0, .string (⟨#[]⟩ : ByteArray), .int .i64 0, .int .i64 0, .string (⟨#[]⟩ : ByteArray)]) ?_ 0 _ rfl; (with_reducible repeat (first | refine blk_drewN ?_ _ | refine blk_drew ?_ | refine blk_alloc ?_ _)); exact BK666.out)⟩
   refine steps_cons ?_ ?_
   ·rintro b a w' ⟨v681, ha, Q_BK663, Q_BK664, Q_BK665, Q_BK666, Q_HB, Q_HO682, Q_BK666_e17⟩ hb_ hon hoff
    refine ⟨_, rfl, fun K hK => ?_⟩
    have e36 : a.tmps[36]? = some (.string t683) := by rw [ha]; exact putSel_on (e := (14, 36, .string t683)) 8 rfl rfl (hon 14 (by kernel_rfl)) rfl
    replace ha := Aside0.mk ha
    have BK663 := Aside0.mk Q_BK663
    have BK664 := Aside0.mk Q_BK664
    have BK665 := Aside0.mk Q_BK665
    have HB := Aside0.mk Q_HB
    have HO682 := Aside0.mk (Q_HO682 (hon 13 (by kernel_rfl)))
    have BK666 := Aside0.mk (Q_BK666_e17 (hon 17 (by kernel_rfl)))
    refine value_ (w1 := w') (v := .string t683) (by rfl) rfl ?_ ?_
    ·go_simp
     (try simp only [i64_w])
     try rfl
    refine hK.out _ _ ⟨v681, (by rw [ha.out]; exact putSel_upk 10 hb_ rfl rfl rfl), Q_BK663, Q_BK664, Q_BK665, fun h0_ => absurd ((hon 17 (by kernel_rfl)).symm.trans h0_) (by decide), Q_HB, Q_HO682, Q_BK666_e17⟩
   refine steps_cons ?_ ?_
   ·rintro b a w' ⟨v681, ha, Q_BK663, Q_BK664, Q_BK665, Q_BK666, Q_HB, Q_HO682, Q_BK666_e17⟩ hb_ hon hoff
    refine ⟨_, rfl, fun K hK => ?_⟩
    have e38 : a.tmps[38]? = some (.int .i64 (wrap64 (t667 + 1))) := by rw [ha]; exact putSel_on (e := (16, 38, .int .i64 (wrap64 (t667 + 1)))) 9 rfl rfl (hon 16 (by kernel_rfl)) rfl
    replace ha := Aside0.mk ha
    have BK663 := Aside0.mk Q_BK663
    have BK664 := Aside0.mk Q_BK664
    have BK665 := Aside0.mk Q_BK665
    have HB := Aside0.mk Q_HB
    have HO682 := Aside0.mk (Q_HO682 (hon 13 (by kernel_rfl)))
    have BK666 := Aside0.mk (Q_BK666_e17 (hon 17 (by kernel_rfl)))
    refine value_ (w1 := w') (v := .int .i64 (wrap64 (t667 + 1))) (by rfl) rfl ?_ ?_
    ·go_simp
     (try simp only [i64_w])
     try rfl
    refine hK.out _ _ ⟨v681, (by rw [ha.out]; exact putSel_upk 11 hb_ rfl rfl rfl), Q_BK663, Q_BK664, Q_BK665, fun h0_ => absurd ((hon 17 (by kernel_rfl)).symm.trans h0_) (by decide), Q_HB, Q_HO682, Q_BK666_e17⟩
   exact steps_nil
  rintro b a w54 hall ⟨v681, ha, Q_BK663, Q_BK664, Q_BK665, Q_BK666, Q_HB, Q_HO682, Q_BK666_e17⟩
  clear BK663 BK664 BK665 BK666 HB
  have hb0_ := hall 0 (by kernel_rfl)
  have hb3_ := hall 3 (by kernel_rfl)
  have hb5_ := hall 5 (by kernel_rfl)
  have hb6_ := hall 6 (by kernel_rfl)
  have hb8_ := hall 8 (by kernel_rfl)
  have hb10_ := hall 10 (by kernel_rfl)
  have hb11_ := hall 11 (by kernel_rfl)
  have hb13_ := hall 13 (by kernel_rfl)
  have hb14_ := hall 14 (by kernel_rfl)
  have hb16_ := hall 16 (by kernel_rfl)
  have hb17_ := hall 17 (by kernel_rfl)
  have hb18_ := hall 18 (by kernel_rfl)
  have hb19_ := hall 19 (by kernel_rfl)
  subst ha
  simp only [putSel, hb0_, hb3_, hb5_, hb6_, hb8_, hb10_, hb11_, hb13_, hb14_, hb16_, hb17_, hb18_, hb19_, if_true, Act.put, List.setIfInBounds_toArray, List.set_cons_zero, List.set_cons_succ]
  have BK663 := Aside0.mk Q_BK663
  clear Q_BK663
  have BK664 := Aside0.mk Q_BK664
  clear Q_BK664
  have BK665 := Aside0.mk Q_BK665
  clear Q_BK665
  clear Q_BK666
  have HB := Aside0.mk Q_HB
  clear Q_HB
  have HO682 := Aside0.mk (Q_HO682 hb13_)
  clear Q_HO682
  have BK666 := Aside0.mk (Q_BK666_e17 hb17_)
  clear Q_BK666_e17
  clear hall hb0_ hb3_ hb5_ hb6_ hb8_ hb10_ hb11_ hb13_ hb14_ hb16_ hb17_ hb18_ hb19_
  try go_wp2
  refine bodyPost_ret (results_ctt rfl _ _ gb666 76 #[.string t674, .int .i64 t675, .string t676, .int .i64 t677, .int .i64 t678, .string t679] (0, 0) _ rfl (by (with_reducible repeat (first | refine blk_drewN ?_ _ | refine blk_drew ?_ | refine blk_alloc ?_ _)); exact BK666.out) Try.underlying76 rfl (by kernel_rfl)) rfl ?_
  exact ⟨by first | rfl | (simp [errW_none, errW_some] <;> rfl) | (simp [*, errW_none, errW_some] <;> rfl), by repeat (first | (with_reducible first | exact HB.out | apply below_alloc | apply pw_below_drewN | apply below_drew1 | refine below_set ?_ GE663.out | refine below_set ?_ GE664.out | refine below_set ?_ GE665.out | refine below_set ?_ GE666.out) | exact HB.out)⟩
end Go.Proofs.Ytdcknaoamjlaiaa.Gn
