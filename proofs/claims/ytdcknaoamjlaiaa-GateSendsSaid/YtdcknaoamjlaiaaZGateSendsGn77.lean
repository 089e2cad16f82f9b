import Derived.Test.YtdcknaoamjlaiaaZGateSendsGn0
import Derived.Test.YtdcknaoamjlaiaaZGateSendsGn3
import Derived.Test.YtdcknaoamjlaiaaZGateSendsGn54
import Derived.Test.YtdcknaoamjlaiaaZGateSendsGn55
import Derived.Test.YtdcknaoamjlaiaaZGateSendsGn74
import Derived.Test.YtdcknaoamjlaiaaZGateSendsGn75
import Derived.Test.YtdcknaoamjlaiaaZGateSendsGn76
namespace Go.Proofs.Ytdcknaoamjlaiaa.Gn
open Go.RowKit Go.Proofs.YtdcknaoamjlaiaaW.PrintWords Go.Proofs.YtdcknaoamjlaiaaW.PrintLast Go.Proofs.YtdcknaoamjlaiaaW.PrintMore
attribute [local go_sem] max2_int min2_int max_two min_two max_three min_three max_four min_four   -- for this text's walks alone
set_option linter.unusedVariables false
set_option linter.unusedSimpArgs false
attribute [local go_sem high] eqA76
def bellwetherlaw23_GateSends.f (k : Nat) (a0_0 a0_1 a0_2 a0_3 a0_4 a0_5 a0_6 a0_7 a0_8 a0_9 : Int) (l0_10 : List Int) (a1_0 a1_1 a1_2 : Int) (a1_3 : ByteArray) (a1_4 : Int) (a1_5 a1_6 : ByteArray) (a1_7 a1_8 : Int) (a1_9 a1_10 a1_11 a1_12 a1_13 a1_14 : ByteArray) (l1_15 : List (S140)) (l1_16 : List ByteArray) (l1_17 : List (S142)) (a1_18 a1_19 a1_20 a1_21 a1_22 a1_23 a2 : Int) (a3_0 : ByteArray) (a3_1 : Int) (a3_2 : ByteArray) (a3_3 a3_4 : Int) (a3_5 : ByteArray) : Option (Bool) := if (a1_12.size : Int) > 100 then ((bellwetherlaw23_known.f k).bind fun t740 => (some t740)) else ((gate_Send.f k a0_0 a0_1 a0_2 a0_3 a0_4 a0_5 a0_6 a0_7 a0_8 a0_9 l0_10 a1_0 a1_1 a1_2 a1_3 a1_4 a1_5 a1_6 a1_7 a1_8 a1_9 a1_10 a1_11 a1_12 a1_13 a1_14 l1_15 l1_16 l1_17 a1_18 a1_19 a1_20 a1_21 a1_22 a1_23 a2 a3_0 a3_1 a3_2 a3_3 a3_4 a3_5).bind fun bt741 => ((bellwetherref23_Send.f k a0_0 a0_1 a0_2 a0_3 a0_4 a0_5 a0_6 a0_7 a0_8 a0_9 l0_10 a1_0 a1_1 a1_2 a1_3 a1_4 a1_5 a1_6 a1_7 a1_8 a1_9 a1_10 a1_11 a1_12 a1_13 a1_14 l1_15 l1_16 l1_17 a1_18 a1_19 a1_20 a1_21 a1_22 a1_23 a2 a3_0 a3_1 a3_2 a3_3 a3_4 a3_5).bind fun bt750 => ((gate_Guard.f k a0_0 a0_1 a0_2 a0_3 a0_4 a0_5 a0_6 a0_7 a0_8 a0_9 l0_10 a1_0 a1_1 a1_2 a1_3 a1_4 a1_5 a1_6 a1_7 a1_8 a1_9 a1_10 a1_11 a1_12 a1_13 a1_14 l1_15 l1_16 l1_17 a1_18 a1_19 a1_20 a1_21 a1_22 a1_23 a2 a3_0 a3_1 a3_2 a3_3 a3_4 a3_5).bind fun bt759 => ((bellwetherref23_Guard.f k a0_0 a0_1 a0_2 a0_3 a0_4 a0_5 a0_6 a0_7 a0_8 a0_9 l0_10 a1_0 a1_1 a1_2 a1_3 a1_4 a1_5 a1_6 a1_7 a1_8 a1_9 a1_10 a1_11 a1_12 a1_13 a1_14 l1_15 l1_16 l1_17 a1_18 a1_19 a1_20 a1_21 a1_22 a1_23 a2 a3_0 a3_1 a3_2 a3_3 a3_4 a3_5).bind fun bt765 => (if (bt759.1.toList == bt765.1.toList && (bt759.2.1 == bt765.2.1 && (bt759.2.2.1.toList == bt765.2.2.1.toList && (bt759.2.2.2.1 == bt765.2.2.2.1 && (bt759.2.2.2.2.1 == bt765.2.2.2.2.1 && (bt759.2.2.2.2.2.toList == bt765.2.2.2.2.2.toList)))))) = true then (if (bt741.1.toList == bt750.1.toList && (bt741.2.1 == bt750.2.1 && (bt741.2.2.1.toList == bt750.2.2.1.toList && (bt741.2.2.2.1 == bt750.2.2.2.1 && (bt741.2.2.2.2.1 == bt750.2.2.2.2.1 && (bt741.2.2.2.2.2.1.toList == bt750.2.2.2.2.2.1.toList)))))) = true then (if bt741.2.2.2.2.2.2.1.toList = bt750.2.2.2.2.2.2.1.toList then (if bt741.2.2.2.2.2.2.2 = bt750.2.2.2.2.2.2.2 then ((bellwetherlaw23_known.f k).bind fun t771 => (some t771)) else (none)) else (none)) else (none)) else (none))))))
def bellwetherlaw23_GateSends.T5 : Bool × List (List Nat × List Nat) := (true, [([], []), ([], []), ([], []), ([], []), ([0, 1, 2, 3], [0, 1, 2, 3]), ([], []), ([], []), ([], []), ([], []), ([5, 6, 7, 8, 4], [5, 6, 7, 8]), ([4, 9], [4, 9]), ([10, 9], [10]), ([11], [11]), ([11], [11]), ([12, 13, 11], [11, 12, 13]), ([11, 14], [11, 14]), ([15, 11], [15]), ([16], [16]), ([16], [16]), ([17, 18, 16], [16, 17, 18]), ([16, 19], [16, 19]), ([20, 16], [20]), ([21], [21]), ([21], [21]), ([22, 23, 21], [21, 22, 23]), ([21, 24], [21, 24]), ([25, 21], [25]), ([26, 26], [26]), ([26, 27], [26, 27]), ([28, 27, 0, 1, 2, 3, 4, 5, 6, 7, 8, 9, 10, 11, 12, 13, 14, 15, 16, 17, 18, 19, 20, 21, 22, 23, 24, 25, 26, 27, 28], [28])])
def bellwetherlaw23_GateSends.B5 : List Nat := [0, 0, 0, 0, 15, 0, 0, 0, 0, 511, 1023, 2047, 4095, 4095, 16383, 32767, 65535, 131071, 131071, 524287, 1048575, 2097151, 4194303, 4194303, 16777215, 33554431, 67108863, 134217727, 268435455, 536870911]
theorem bellwetherlaw23_GateSends.tab5 : rtab .any (opsOf Try.f15 5) = bellwetherlaw23_GateSends.T5 := by kernel_rfl
theorem bellwetherlaw23_GateSends.bits5 : waitsOk bellwetherlaw23_GateSends.T5.2 bellwetherlaw23_GateSends.B5 = true := by kernel_rfl
set_option maxHeartbeats 8000000 in
set_option maxRecDepth 100000 in
theorem bellwetherlaw23_GateSends.calls (k : Nat) (a0_0 a0_1 a0_2 a0_3 a0_4 a0_5 a0_6 a0_7 a0_8 a0_9 : Int) (A0_10 : Option Addr) (c0_10 : Nat) (l0_10 : List Int) (a1_0 a1_1 a1_2 : Int) (a1_3 : ByteArray) (a1_4 : Int) (a1_5 a1_6 : ByteArray) (a1_7 a1_8 : Int) (a1_9 a1_10 a1_11 a1_12 a1_13 a1_14 : ByteArray) (A1_15 : Option Addr) (c1_15 : Nat) (l1_15 : List (S140)) (A1_16 : Option Addr) (c1_16 : Nat) (l1_16 : List ByteArray) (A1_17 : Option Addr) (c1_17 : Nat) (l1_17 : List (S142)) (a1_18 a1_19 a1_20 a1_21 a1_22 a1_23 a2 : Int) (a3_0 : ByteArray) (a3_1 : Int) (a3_2 : ByteArray) (a3_3 a3_4 : Int) (a3_5 : ByteArray) (r : Bool) (w : World) (hr0_10 : Kd.C (Kd.int .i64) w A0_10 l0_10.length l0_10) (hc0_10 : l0_10.length ≤ c0_10) (hr1_15 : Kd.C k140 w A1_15 l1_15.length l1_15) (hc1_15 : l1_15.length ≤ c1_15) (hr1_16 : Kd.C Kd.string w A1_16 l1_16.length l1_16) (hc1_16 : l1_16.length ≤ c1_16) (hr1_17 : Kd.C k142 w A1_17 l1_17.length l1_17) (hc1_17 : l1_17.length ≤ c1_17) (h : bellwetherlaw23_GateSends.f k a0_0 a0_1 a0_2 a0_3 a0_4 a0_5 a0_6 a0_7 a0_8 a0_9 l0_10 a1_0 a1_1 a1_2 a1_3 a1_4 a1_5 a1_6 a1_7 a1_8 a1_9 a1_10 a1_11 a1_12 a1_13 a1_14 l1_15 l1_16 l1_17 a1_18 a1_19 a1_20 a1_21 a1_22 a1_23 a2 a3_0 a3_1 a3_2 a3_3 a3_4 a3_5 = some r) :
  Calls Try.prog 15 #[.agg #[.int .i64 a0_0, .int .i64 a0_1, .int .i64 a0_2, .int .i64 a0_3, .int .i64 a0_4, .int .i64 a0_5, .int .i64 a0_6, .int .i64 a0_7, .int .i64 a0_8, .int .i64 a0_9, .slice A0_10 l0_10.length c0_10], .agg #[.int .i64 a1_0, .int .i64 a1_1, .int .i64 a1_2, .string a1_3, .int .i64 a1_4, .string a1_5, .string a1_6, .int .i64 a1_7, .int .i64 a1_8, .string a1_9, .string a1_10, .string a1_11, .string a1_12, .string a1_13, .string a1_14, .slice A1_15 l1_15.length c1_15, .slice A1_16 l1_16.length c1_16, .slice A1_17 l1_17.length c1_17, .int .i64 a1_18, .int .i64 a1_19, .int .i64 a1_20, .int .i64 a1_21, .int .i64 a1_22, .int .i64 a1_23], .int .i64 a2, .agg #[.string a3_0, .int .i64 a3_1, .string a3_2, .int .i64 a3_3, .int .i64 a3_4, .string a3_5]] w fun e w' => e = .returned (.bool r) ∧ Below w.heap.size w w' := by
 have HR0_10 := Aside0.mk hr0_10
 have HC0_10 := Aside0.mk hc0_10
 clear hr0_10 hc0_10
 have HR1_15 := Aside0.mk hr1_15
 have HC1_15 := Aside0.mk hc1_15
 clear hr1_15 hc1_15
 have HR1_16 := Aside0.mk hr1_16
 have HC1_16 := Aside0.mk hc1_16
 clear hr1_16 hc1_16
 have HR1_17 := Aside0.mk hr1_17
 have HC1_17 := Aside0.mk hc1_17
 clear hr1_17 hc1_17
 have HB := Aside0.mk (Below.refl w.heap.size w)
 have H : (if (a1_12.size : Int) > 100 then ((bellwetherlaw23_known.f k).bind fun t740 => (some t740)) else ((gate_Send.f k a0_0 a0_1 a0_2 a0_3 a0_4 a0_5 a0_6 a0_7 a0_8 a0_9 l0_10 a1_0 a1_1 a1_2 a1_3 a1_4 a1_5 a1_6 a1_7 a1_8 a1_9 a1_10 a1_11 a1_12 a1_13 a1_14 l1_15 l1_16 l1_17 a1_18 a1_19 a1_20 a1_21 a1_22 a1_23 a2 a3_0 a3_1 a3_2 a3_3 a3_4 a3_5).bind fun bt741 => ((bellwetherref23_Send.f k a0_0 a0_1 a0_2 a0_3 a0_4 a0_5 a0_6 a0_7 a0_8 a0_9 l0_10 a1_0 a1_1 a1_2 a1_3 a1_4 a1_5 a1_6 a1_7 a1_8 a1_9 a1_10 a1_11 a1_12 a1_13 a1_14 l1_15 l1_16 l1_17 a1_18 a1_19 a1_20 a1_21 a1_22 a1_23 a2 a3_0 a3_1 a3_2 a3_3 a3_4 a3_5).bind fun bt750 => ((gate_Guard.f k a0_0 a0_1 a0_2 a0_3 a0_4 a0_5 a0_6 a0_7 a0_8 a0_9 l0_10 a1_0 a1_1 a1_2 a1_3 a1_4 a1_5 a1_6 a1_7 a1_8 a1_9 a1_10 a1_11 a1_12 a1_13 a1_14 l1_15 l1_16 l1_17 a1_18 a1_19 a1_20 a1_21 a1_22 a1_23 a2 a3_0 a3_1 a3_2 a3_3 a3_4 a3_5).bind fun bt759 => ((bellwetherref23_Guard.f k a0_0 a0_1 a0_2 a0_3 a0_4 a0_5 a0_6 a0_7 a0_8 a0_9 l0_10 a1_0 a1_1 a1_2 a1_3 a1_4 a1_5 a1_6 a1_7 a1_8 a1_9 a1_10 a1_11 a1_12 a1_13 a1_14 l1_15 l1_16 l1_17 a1_18 a1_19 a1_20 a1_21 a1_22 a1_23 a2 a3_0 a3_1 a3_2 a3_3 a3_4 a3_5).bind fun bt765 => (if (bt759.1.toList == bt765.1.toList && (bt759.2.1 == bt765.2.1 && (bt759.2.2.1.toList == bt765.2.2.1.toList && (bt759.2.2.2.1 == bt765.2.2.2.1 && (bt759.2.2.2.2.1 == bt765.2.2.2.2.1 && (bt759.2.2.2.2.2.toList == bt765.2.2.2.2.2.toList)))))) = true then (if (bt741.1.toList == bt750.1.toList && (bt741.2.1 == bt750.2.1 && (bt741.2.2.1.toList == bt750.2.2.1.toList && (bt741.2.2.2.1 == bt750.2.2.2.1 && (bt741.2.2.2.2.1 == bt750.2.2.2.2.1 && (bt741.2.2.2.2.2.1.toList == bt750.2.2.2.2.2.1.toList)))))) = true then (if bt741.2.2.2.2.2.2.1.toList = bt750.2.2.2.2.2.2.1.toList then (if bt741.2.2.2.2.2.2.2 = bt750.2.2.2.2.2.2.2 then ((bellwetherlaw23_known.f k).bind fun t771 => (some t771)) else (none)) else (none)) else (none)) else (none))))))) = some r := h
 clear h
 by_cases c5 : (a1_12.size : Int) > 100
 ·rw [if_pos c5] at H
  have c5b0 : decide (100 < (a1_12.size : Int)) = true := decide_eq_true c5
  have c5b1 : decide (100 < a1_12.size) = true := decide_eq_true (by omega)
  clear c5
  replace H := Option.bind_eq_some_iff.mp H
  obtain ⟨t740, A60, H⟩ := H
  replace H : (some t740) = some r := H
  have A6 := Aside0.mk A60
  clear A60
  obtain rfl := Option.some.inj H
  go_enter Try.func15, Try.ntmps15
  go_wp2_with (first | ((with_reducible refine gate_load (t := 24) (x := .tmp 4) rfl ?_); refine load_row_g (cs := ?_) ?hw 24 (.tmp 4) ?h2 gb737 ?hx 24 (fr := (0, 0)) (d := ?_) ?hg ?h3 ?h4 ?hi ?_; (case hw => first | (with_reducible rfl) | (go_simp; done) | rfl); (case h2 => rfl); (case hx => first | (with_reducible rfl) | (go_simp; done) | rfl); (case hg => exact BK737.out); (case h3 => exact Try.underlying24); (case h4 => rfl); (case hi => kernel_rfl)) | ((with_reducible refine gate_load (t := 44) (x := .tmp 5) rfl ?_); refine load_row_g (cs := ?_) ?hw 44 (.tmp 5) ?h2 gb738 ?hx 44 (fr := (0, 0)) (d := ?_) ?hg ?h3 ?h4 ?hi ?_; (case hw => first | (with_reducible rfl) | (go_simp; done) | rfl); (case h2 => rfl); (case hx => first | (with_reducible rfl) | (go_simp; done) | rfl); (case hg => exact BK738.out); (case h3 => exact Try.underlying44); (case h4 => rfl); (case hi => kernel_rfl)) | ((with_reducible refine gate_load (t := 76) (x := .tmp 7) rfl ?_); refine load_row_g (cs := ?_) ?hw 76 (.tmp 7) ?h2 gb739 ?hx 76 (fr := (0, 0)) (d := ?_) ?hg ?h3 ?h4 ?hi ?_; (case hw => first | (with_reducible rfl) | (go_simp; done) | rfl); (case h2 => rfl); (case hx => first | (with_reducible rfl) | (go_simp; done) | rfl); (case hg => exact BK739.out); (case h3 => exact Try.underlying76); (case h4 => rfl); (case hi => kernel_rfl)) | ((with_reducible refine gate_load (t := 76) (x := .tmp 9) rfl ?_); refine load_row_g (cs := ?_) ?hw 76 (.tmp 9) ?h2 gb749 ?hx 76 (fr := (0, 0)) (d := ?_) ?hg ?h3 ?h4 ?hi ?_; (case hw => first | (with_reducible rfl) | (go_simp; done) | rfl); (case h2 => rfl); (case hx => first | (with_reducible rfl) | (go_simp; done) | rfl); (case hg => exact BK749.out); (case h3 => exact Try.underlying76); (case h4 => rfl); (case hi => kernel_rfl)) | ((with_reducible refine gate_load (t := 76) (x := .tmp 12) rfl ?_); refine load_row_g (cs := ?_) ?hw 76 (.tmp 12) ?h2 gb758 ?hx 76 (fr := (0, 0)) (d := ?_) ?hg ?h3 ?h4 ?hi ?_; (case hw => first | (with_reducible rfl) | (go_simp; done) | rfl); (case h2 => rfl); (case hx => first | (with_reducible rfl) | (go_simp; done) | rfl); (case hg => exact BK758.out); (case h3 => exact Try.underlying76); (case h4 => rfl); (case hi => kernel_rfl)) | ((with_reducible refine gate_dst (N := 4) rfl ?_); refine box_event ?hg (N := 4) ?hd (cs := #[.int .i64 a0_0, .int .i64 a0_1, .int .i64 a0_2, .int .i64 a0_3, .int .i64 a0_4, .int .i64 a0_5, .int .i64 a0_6, .int .i64 a0_7, .int .i64 a0_8, .int .i64 a0_9, .slice A0_10 l0_10.length c0_10]) (t := 24) ?hr ?_; (case hd => rfl); (case hg => rfl); (case hr => first | (go_simp; done) | (go_simp; rfl)); intro gb737 hg w7 hbox hb; have n0_ := Aside0.mk (below_step HB.out hb); have n1_ := Aside0.mk (hbox); have n2_ := Aside0.mk ((by rw [hg]; exact (below_size HB.out) : w.heap.size ≤ gb737)); have n3_ := Aside0.mk ((by rw [hg]; exact (below_size HB.out) : w.heap.size ≤ gb737)); clear HB; have HB := n0_; have BK737 := n1_; have GW737 := n2_; have GE737 := n3_; clear n0_ n1_ n2_ n3_; clear hb hbox hg) | ((with_reducible refine gate_dst (N := 5) rfl ?_); refine box_event ?hg (N := 5) ?hd (cs := #[.int .i64 a1_0, .int .i64 a1_1, .int .i64 a1_2, .string a1_3, .int .i64 a1_4, .string a1_5, .string a1_6, .int .i64 a1_7, .int .i64 a1_8, .string a1_9, .string a1_10, .string a1_11, .string a1_12, .string a1_13, .string a1_14, .slice A1_15 l1_15.length c1_15, .slice A1_16 l1_16.length c1_16, .slice A1_17 l1_17.length c1_17, .int .i64 a1_18, .int .i64 a1_19, .int .i64 a1_20, .int .i64 a1_21, .int .i64 a1_22, .int .i64 a1_23]) (t := 44) ?hr ?_; (case hd => rfl); (case hg => rfl); (case hr => first | (go_simp; done) | (go_simp; rfl)); intro gb738 hg w8 hbox hb; have n0_ := Aside0.mk (blk_below BK737.out hb); have n1_ := Aside0.mk (below_step HB.out hb); have n2_ := Aside0.mk (hbox); have n3_ := Aside0.mk ((by rw [hg]; exact (below_size HB.out) : w.heap.size ≤ gb738)); have n4_ := Aside0.mk ((by rw [hg]; exact (below_size HB.out) : w.heap.size ≤ gb738)); have n5_ := Aside0.mk ((by rw [hg]; exact Nat.ne_of_lt (blk_lt BK737.out) : gb737 ≠ gb738)); have n6_ := Aside0.mk ((by rw [hg]; exact Nat.ne_of_gt (blk_lt BK737.out) : gb738 ≠ gb737)); clear BK737; clear HB; have BK737 := n0_; have HB := n1_; have BK738 := n2_; have GW738 := n3_; have GE738 := n4_; have NB737_738 := n5_; have NB738_737 := n6_; clear n0_ n1_ n2_ n3_ n4_ n5_ n6_; clear hb hbox hg) | ((with_reducible refine gate_dst (N := 7) rfl ?_); refine box_event ?hg (N := 7) ?hd (cs := #[.string a3_0, .int .i64 a3_1, .string a3_2, .int .i64 a3_3, .int .i64 a3_4, .string a3_5]) (t := 76) ?hr ?_; (case hd => rfl); (case hg => rfl); (case hr => first | (go_simp; done) | (go_simp; rfl)); intro gb739 hg w9 hbox hb; have n0_ := Aside0.mk (blk_below BK737.out hb); have n1_ := Aside0.mk (blk_below BK738.out hb); have n2_ := Aside0.mk (below_step HB.out hb); have n3_ := Aside0.mk (hbox); have n4_ := Aside0.mk ((by rw [hg]; exact (below_size HB.out) : w.heap.size ≤ gb739)); have n5_ := Aside0.mk ((by rw [hg]; exact (below_size HB.out) : w.heap.size ≤ gb739)); have n6_ := Aside0.mk ((by rw [hg]; exact Nat.ne_of_lt (blk_lt BK737.out) : gb737 ≠ gb739)); have n7_ := Aside0.mk ((by rw [hg]; exact Nat.ne_of_gt (blk_lt BK737.out) : gb739 ≠ gb737)); have n8_ := Aside0.mk ((by rw [hg]; exact Nat.ne_of_lt (blk_lt BK738.out) : gb738 ≠ gb739)); have n9_ := Aside0.mk ((by rw [hg]; exact Nat.ne_of_gt (blk_lt BK738.out) : gb739 ≠ gb738)); clear BK737; clear BK738; clear HB; have BK737 := n0_; have BK738 := n1_; have HB := n2_; have BK739 := n3_; have GW739 := n4_; have GE739 := n5_; have NB737_739 := n6_; have NB739_737 := n7_; have NB738_739 := n8_; have NB739_738 := n9_; clear n0_ n1_ n2_ n3_ n4_ n5_ n6_ n7_ n8_ n9_; clear hb hbox hg; have hnb10 := NB738_737.out; have hnc10 := NB737_738.out; have hnb11 := NB738_739.out; have hnc11 := NB739_738.out; have hall1_ := cells_24 BK738.out; have hall2_ := frozen_24 BK738.out) | ((with_reducible refine gate_callee (f := 46) rfl ?_); refine goesL_ (some 19) rfl rfl Try.func46 (by kernel_rfl) rfl #[] rfl (by (try simp only [List.map_toArray, List.map_cons, List.map_nil]); first | done | rfl | (simp only [List.length_drop, List.length_take]; rfl)) ?_; (with_reducible refine (bellwetherlaw23_known.calls k  t740 _ A6.out).mono ?_); rintro e w13 ⟨rfl, hb⟩; refine ⟨_, rfl, ?_⟩; have n0_ := Aside0.mk (blk_below BK737.out hb); have n1_ := Aside0.mk (blk_below BK738.out hb); have n2_ := Aside0.mk (blk_below BK739.out hb); have n3_ := Aside0.mk (below_step HB.out hb); clear BK737; clear BK738; clear BK739; clear HB; have BK737 := n0_; have BK738 := n1_; have BK739 := n2_; have HB := n3_; clear n0_ n1_ n2_ n3_; (try clear hb); (try clear hb2); (try clear hk); (try clear hi)))
  go_ret
  exact ⟨by first | rfl | (simp [errW_none, errW_some] <;> rfl) | (simp [*, errW_none, errW_some] <;> rfl), by repeat (first | (with_reducible first | exact HB.out | apply below_alloc | apply pw_below_drewN | apply below_drew1 | refine below_set ?_ GE737.out | refine below_set ?_ GE738.out | refine below_set ?_ GE739.out) | exact HB.out)⟩
 ·rw [if_neg c5] at H
  have c5b0 : decide (100 < (a1_12.size : Int)) = false := decide_eq_false c5
  have c5b1 : decide (100 < a1_12.size) = false := decide_eq_false (by omega)
  clear c5
  replace H := Option.bind_eq_some_iff.mp H
  obtain ⟨⟨t741, t742, t743, t744, t745, t746, t747, t748⟩, A140, H⟩ := H
  replace H : ((bellwetherref23_Send.f k a0_0 a0_1 a0_2 a0_3 a0_4 a0_5 a0_6 a0_7 a0_8 a0_9 l0_10 a1_0 a1_1 a1_2 a1_3 a1_4 a1_5 a1_6 a1_7 a1_8 a1_9 a1_10 a1_11 a1_12 a1_13 a1_14 l1_15 l1_16 l1_17 a1_18 a1_19 a1_20 a1_21 a1_22 a1_23 a2 a3_0 a3_1 a3_2 a3_3 a3_4 a3_5).bind fun bt750 => ((gate_Guard.f k a0_0 a0_1 a0_2 a0_3 a0_4 a0_5 a0_6 a0_7 a0_8 a0_9 l0_10 a1_0 a1_1 a1_2 a1_3 a1_4 a1_5 a1_6 a1_7 a1_8 a1_9 a1_10 a1_11 a1_12 a1_13 a1_14 l1_15 l1_16 l1_17 a1_18 a1_19 a1_20 a1_21 a1_22 a1_23 a2 a3_0 a3_1 a3_2 a3_3 a3_4 a3_5).bind fun bt759 => ((bellwetherref23_Guard.f k a0_0 a0_1 a0_2 a0_3 a0_4 a0_5 a0_6 a0_7 a0_8 a0_9 l0_10 a1_0 a1_1 a1_2 a1_3 a1_4 a1_5 a1_6 a1_7 a1_8 a1_9 a1_10 a1_11 a1_12 a1_13 a1_14 l1_15 l1_16 l1_17 a1_18 a1_19 a1_20 a1_21 a1_22 a1_23 a2 a3_0 a3_1 a3_2 a3_3 a3_4 a3_5).bind fun bt765 => (if (bt759.1.toList == bt765.1.toList && (bt759.2.1 == bt765.2.1 && (bt759.2.2.1.toList == bt765.2.2.1.toList && (bt759.2.2.2.1 == bt765.2.2.2.1 && (bt759.2.2.2.2.1 == bt765.2.2.2.2.1 && (bt759.2.2.2.2.2.toList == bt765.2.2.2.2.2.toList)))))) = true then (if (t741.toList == bt750.1.toList && (t742 == bt750.2.1 && (t743.toList == bt750.2.2.1.toList && (t744 == bt750.2.2.2.1 && (t745 == bt750.2.2.2.2.1 && (t746.toList == bt750.2.2.2.2.2.1.toList)))))) = true then (if t747.toList = bt750.2.2.2.2.2.2.1.toList then (if t748 = bt750.2.2.2.2.2.2.2 then ((bellwetherlaw23_known.f k).bind fun t771 => (some t771)) else (none)) else (none)) else (none)) else (none))))) = some r := H
  have A14 := Aside0.mk A140
  clear A140
  replace H := Option.bind_eq_some_iff.mp H
  obtain ⟨⟨t750, t751, t752, t753, t754, t755, t756, t757⟩, A150, H⟩ := H
  replace H : ((gate_Guard.f k a0_0 a0_1 a0_2 a0_3 a0_4 a0_5 a0_6 a0_7 a0_8 a0_9 l0_10 a1_0 a1_1 a1_2 a1_3 a1_4 a1_5 a1_6 a1_7 a1_8 a1_9 a1_10 a1_11 a1_12 a1_13 a1_14 l1_15 l1_16 l1_17 a1_18 a1_19 a1_20 a1_21 a1_22 a1_23 a2 a3_0 a3_1 a3_2 a3_3 a3_4 a3_5).bind fun bt759 => ((bellwetherref23_Guard.f k a0_0 a0_1 a0_2 a0_3 a0_4 a0_5 a0_6 a0_7 a0_8 a0_9 l0_10 a1_0 a1_1 a1_2 a1_3 a1_4 a1_5 a1_6 a1_7 a1_8 a1_9 a1_10 a1_11 a1_12 a1_13 a1_14 l1_15 l1_16 l1_17 a1_18 a1_19 a1_20 a1_21 a1_22 a1_23 a2 a3_0 a3_1 a3_2 a3_3 a3_4 a3_5).bind fun bt765 => (if (bt759.1.toList == bt765.1.toList && (bt759.2.1 == bt765.2.1 && (bt759.2.2.1.toList == bt765.2.2.1.toList && (bt759.2.2.2.1 == bt765.2.2.2.1 && (bt759.2.2.2.2.1 == bt765.2.2.2.2.1 && (bt759.2.2.2.2.2.toList == bt765.2.2.2.2.2.toList)))))) = true then (if (t741.toList == t750.toList && (t742 == t751 && (t743.toList == t752.toList && (t744 == t753 && (t745 == t754 && (t746.toList == t755.toList)))))) = true then (if t747.toList = t756.toList then (if t748 = t757 then ((bellwetherlaw23_known.f k).bind fun t771 => (some t771)) else (none)) else (none)) else (none)) else (none)))) = some r := H
  have A15 := Aside0.mk A150
  clear A150
  replace H := Option.bind_eq_some_iff.mp H
  obtain ⟨⟨t759, t760, t761, t762, t763, t764⟩, A160, H⟩ := H
  replace H : ((bellwetherref23_Guard.f k a0_0 a0_1 a0_2 a0_3 a0_4 a0_5 a0_6 a0_7 a0_8 a0_9 l0_10 a1_0 a1_1 a1_2 a1_3 a1_4 a1_5 a1_6 a1_7 a1_8 a1_9 a1_10 a1_11 a1_12 a1_13 a1_14 l1_15 l1_16 l1_17 a1_18 a1_19 a1_20 a1_21 a1_22 a1_23 a2 a3_0 a3_1 a3_2 a3_3 a3_4 a3_5).bind fun bt765 => (if (t759.toList == bt765.1.toList && (t760 == bt765.2.1 && (t761.toList == bt765.2.2.1.toList && (t762 == bt765.2.2.2.1 && (t763 == bt765.2.2.2.2.1 && (t764.toList == bt765.2.2.2.2.2.toList)))))) = true then (if (t741.toList == t750.toList && (t742 == t751 && (t743.toList == t752.toList && (t744 == t753 && (t745 == t754 && (t746.toList == t755.toList)))))) = true then (if t747.toList = t756.toList then (if t748 = t757 then ((bellwetherlaw23_known.f k).bind fun t771 => (some t771)) else (none)) else (none)) else (none)) else (none))) = some r := H
  have A16 := Aside0.mk A160
  clear A160
  replace H := Option.bind_eq_some_iff.mp H
  obtain ⟨⟨t765, t766, t767, t768, t769, t770⟩, A170, H⟩ := H
  replace H : (if (t759.toList == t765.toList && (t760 == t766 && (t761.toList == t767.toList && (t762 == t768 && (t763 == t769 && (t764.toList == t770.toList)))))) = true then (if (t741.toList == t750.toList && (t742 == t751 && (t743.toList == t752.toList && (t744 == t753 && (t745 == t754 && (t746.toList == t755.toList)))))) = true then (if t747.toList = t756.toList then (if t748 = t757 then ((bellwetherlaw23_known.f k).bind fun t771 => (some t771)) else (none)) else (none)) else (none)) else (none)) = some r := H
  have A17 := Aside0.mk A170
  clear A170
  by_cases c18 : (t759.toList == t765.toList && (t760 == t766 && (t761.toList == t767.toList && (t762 == t768 && (t763 == t769 && (t764.toList == t770.toList)))))) = true
  ·rw [if_pos c18] at H
   have c18b0 : (t759.toList == t765.toList && (t760 == t766 && (t761.toList == t767.toList && (t762 == t768 && (t763 == t769 && (t764.toList == t770.toList)))))) = true := c18
   (try (have c18b1 : decide (t759.toList = t765.toList && (t760 == t766 && (t761.toList == t767.toList && (t762 == t768 && (t763 == t769 && (t764.toList == t770.toList)))))) = true := by simpa using c18))
   (try (have c18b2 : (t759.toList == t765.toList && (t760 == t766 && (t761.toList == t767.toList && (t762 == t768 && (t763 == t769 && (t764.toList == t770.toList)))))) = true := by simpa using c18))
   clear c18
   by_cases c19 : (t741.toList == t750.toList && (t742 == t751 && (t743.toList == t752.toList && (t744 == t753 && (t745 == t754 && (t746.toList == t755.toList)))))) = true
   ·rw [if_pos c19] at H
    have c19b0 : (t741.toList == t750.toList && (t742 == t751 && (t743.toList == t752.toList && (t744 == t753 && (t745 == t754 && (t746.toList == t755.toList)))))) = true := c19
    (try (have c19b1 : decide (t741.toList = t750.toList && (t742 == t751 && (t743.toList == t752.toList && (t744 == t753 && (t745 == t754 && (t746.toList == t755.toList)))))) = true := by simpa using c19))
    (try (have c19b2 : (t741.toList == t750.toList && (t742 == t751 && (t743.toList == t752.toList && (t744 == t753 && (t745 == t754 && (t746.toList == t755.toList)))))) = true := by simpa using c19))
    clear c19
    by_cases c20 : t747.toList = t756.toList
    ·rw [if_pos c20] at H
     have c20b0 : (t747.toList == t756.toList) = true := beq_iff_eq.mpr c20
     have c20b1 : (t747.toList != t756.toList) = false := bne_eq_false_iff_eq.mpr c20
     clear c20
     by_cases c21 : t748 = t757
     ·rw [if_pos c21] at H
      have c21b0 : (t748 == t757) = true := beq_iff_eq.mpr c21
      have c21b1 : (t748 != t757) = false := bne_eq_false_iff_eq.mpr c21
      clear c21
      replace H := Option.bind_eq_some_iff.mp H
      obtain ⟨t771, A220, H⟩ := H
      replace H : (some t771) = some r := H
      have A22 := Aside0.mk A220
      clear A220
      obtain rfl := Option.some.inj H
      go_enter Try.func15, Try.ntmps15
      try go_wp2_with (first | ((with_reducible refine gate_load (t := 24) (x := .tmp 4) rfl ?_); refine load_row_g (cs := ?_) ?hw 24 (.tmp 4) ?h2 gb737 ?hx 24 (fr := (0, 0)) (d := ?_) ?hg ?h3 ?h4 ?hi ?_; (case hw => first | (with_reducible rfl) | (go_simp; done) | rfl); (case h2 => rfl); (case hx => first | (with_reducible rfl) | (go_simp; done) | rfl); (case hg => exact BK737.out); (case h3 => exact Try.underlying24); (case h4 => rfl); (case hi => kernel_rfl)) | ((with_reducible refine gate_load (t := 44) (x := .tmp 5) rfl ?_); refine load_row_g (cs := ?_) ?hw 44 (.tmp 5) ?h2 gb738 ?hx 44 (fr := (0, 0)) (d := ?_) ?hg ?h3 ?h4 ?hi ?_; (case hw => first | (with_reducible rfl) | (go_simp; done) | rfl); (case h2 => rfl); (case hx => first | (with_reducible rfl) | (go_simp; done) | rfl); (case hg => exact BK738.out); (case h3 => exact Try.underlying44); (case h4 => rfl); (case hi => kernel_rfl)) | ((with_reducible refine gate_load (t := 76) (x := .tmp 7) rfl ?_); refine load_row_g (cs := ?_) ?hw 76 (.tmp 7) ?h2 gb739 ?hx 76 (fr := (0, 0)) (d := ?_) ?hg ?h3 ?h4 ?hi ?_; (case hw => first | (with_reducible rfl) | (go_simp; done) | rfl); (case h2 => rfl); (case hx => first | (with_reducible rfl) | (go_simp; done) | rfl); (case hg => exact BK739.out); (case h3 => exact Try.underlying76); (case h4 => rfl); (case hi => kernel_rfl)) | ((with_reducible refine gate_load (t := 76) (x := .tmp 9) rfl ?_); refine load_row_g (cs := ?_) ?hw 76 (.tmp 9) ?h2 gb749 ?hx 76 (fr := (0, 0)) (d := ?_) ?hg ?h3 ?h4 ?hi ?_; (case hw => first | (with_reducible rfl) | (go_simp; done) | rfl); (case h2 => rfl); (case hx => first | (with_reducible rfl) | (go_simp; done) | rfl); (case hg => exact BK749.out); (case h3 => exact Try.underlying76); (case h4 => rfl); (case hi => kernel_rfl)) | ((with_reducible refine gate_load (t := 76) (x := .tmp 12) rfl ?_); refine load_row_g (cs := ?_) ?hw 76 (.tmp 12) ?h2 gb758 ?hx 76 (fr := (0, 0)) (d := ?_) ?hg ?h3 ?h4 ?hi ?_; (case hw => first | (with_reducible rfl) | (go_simp; done) | rfl); (case h2 => rfl); (case hx => first | (with_reducible rfl) | (go_simp; done) | rfl); (case hg => exact BK758.out); (case h3 => exact Try.underlying76); (case h4 => rfl); (case hi => kernel_rfl)) | ((with_reducible refine gate_dst (N := 4) rfl ?_); refine box_event ?hg (N := 4) ?hd (cs := #[.int .i64 a0_0, .int .i64 a0_1, .int .i64 a0_2, .int .i64 a0_3, .int .i64 a0_4, .int .i64 a0_5, .int .i64 a0_6, .int .i64 a0_7, .int .i64 a0_8, .int .i64 a0_9, .slice A0_10 l0_10.length c0_10]) (t := 24) ?hr ?_; (case hd => rfl); (case hg => rfl); (case hr => first | (go_simp; done) | (go_simp; rfl)); intro gb737 hg w23 hbox hb; have n0_ := Aside0.mk (below_step HB.out hb); have n1_ := Aside0.mk (hbox); have n2_ := Aside0.mk ((by rw [hg]; exact (below_size HB.out) : w.heap.size ≤ gb737)); have n3_ := Aside0.mk ((by rw [hg]; exact (below_size HB.out) : w.heap.size ≤ gb737)); clear HB; have HB := n0_; have BK737 := n1_; have GW737 := n2_; have GE737 := n3_; clear n0_ n1_ n2_ n3_; clear hb hbox hg) | ((with_reducible refine gate_dst (N := 5) rfl ?_); refine box_event ?hg (N := 5) ?hd (cs := #[.int .i64 a1_0, .int .i64 a1_1, .int .i64 a1_2, .string a1_3, .int .i64 a1_4, .string a1_5, .string a1_6, .int .i64 a1_7, .int .i64 a1_8, .string a1_9, .string a1_10, .string a1_11, .string a1_12, .string a1_13, .string a1_14, .slice A1_15 l1_15.length c1_15, .slice A1_16 l1_16.length c1_16, .slice A1_17 l1_17.length c1_17, .int .i64 a1_18, .int .i64 a1_19, .int .i64 a1_20, .int .i64 a1_21, .int .i64 a1_22, .int .i64 a1_23]) (t := 44) ?hr ?_; (case hd => rfl); (case hg => rfl); (case hr => first | (go_simp; done) | (go_simp; rfl)); intro gb738 hg w24 hbox hb; have n0_ := Aside0.mk (blk_below BK737.out hb); have n1_ := Aside0.mk (below_step HB.out hb); have n2_ := Aside0.mk (hbox); have n3_ := Aside0.mk ((by rw [hg]; exact (below_size HB.out) : w.heap.size ≤ gb738)); have n4_ := Aside0.mk ((by rw [hg]; exact (below_size HB.out) : w.heap.size ≤ gb738)); have n5_ := Aside0.mk ((by rw [hg]; exact Nat.ne_of_lt (blk_lt BK737.out) : gb737 ≠ gb738)); have n6_ := Aside0.mk ((by rw [hg]; exact Nat.ne_of_gt (blk_lt BK737.out) : gb738 ≠ gb737)); clear BK737; clear HB; have BK737 := n0_; have HB := n1_; have BK738 := n2_; have GW738 := n3_; have GE738 := n4_; have NB737_738 := n5_; have NB738_737 := n6_; clear n0_ n1_ n2_ n3_ n4_ n5_ n6_; clear hb hbox hg) | ((with_reducible refine gate_dst (N := 7) rfl ?_); refine box_event ?hg (N := 7) ?hd (cs := #[.string a3_0, .int .i64 a3_1, .string a3_2, .int .i64 a3_3, .int .i64 a3_4, .string a3_5]) (t := 76) ?hr ?_; (case hd => rfl); (case hg => rfl); (case hr => first | (go_simp; done) | (go_simp; rfl)); intro gb739 hg w25 hbox hb; have n0_ := Aside0.mk (blk_below BK737.out hb); have n1_ := Aside0.mk (blk_below BK738.out hb); have n2_ := Aside0.mk (below_step HB.out hb); have n3_ := Aside0.mk (hbox); have n4_ := Aside0.mk ((by rw [hg]; exact (below_size HB.out) : w.heap.size ≤ gb739)); have n5_ := Aside0.mk ((by rw [hg]; exact (below_size HB.out) : w.heap.size ≤ gb739)); have n6_ := Aside0.mk ((by rw [hg]; exact Nat.ne_of_lt (blk_lt BK737.out) : gb737 ≠ gb739)); have n7_ := Aside0.mk ((by rw [hg]; exact Nat.ne_of_gt (blk_lt BK737.out) : gb739 ≠ gb737)); have n8_ := Aside0.mk ((by rw [hg]; exact Nat.ne_of_lt (blk_lt BK738.out) : gb738 ≠ gb739)); have n9_ := Aside0.mk ((by rw [hg]; exact Nat.ne_of_gt (blk_lt BK738.out) : gb739 ≠ gb738)); clear BK737; clear BK738; clear HB; have BK737 := n0_; have BK738 := n1_; have HB := n2_; have BK739 := n3_; have GW739 := n4_; have GE739 := n5_; have NB737_739 := n6_; have NB739_737 := n7_; have NB738_739 := n8_; have NB739_738 := n9_; clear n0_ n1_ n2_ n3_ n4_ n5_ n6_ n7_ n8_ n9_; clear hb hbox hg; have hnb26 := NB738_737.out; have hnc26 := NB737_738.out; have hnb27 := NB738_739.out; have hnc27 := NB739_738.out; have hall3_ := cells_24 BK738.out; have hall4_ := frozen_24 BK738.out; have hnb29 := NB737_739.out; have hnc29 := NB739_737.out; have hall5_ := cells_11 BK737.out; have hall6_ := frozen_11 BK737.out; have hall7_ := cells_6 BK739.out; have hall8_ := frozen_6 BK739.out) | ((with_reducible refine gate_callee (f := 66) rfl ?_); refine goesL_ (some 25) rfl rfl Try.func66 (by kernel_rfl) rfl #[.agg #[.int .i64 a0_0, .int .i64 a0_1, .int .i64 a0_2, .int .i64 a0_3, .int .i64 a0_4, .int .i64 a0_5, .int .i64 a0_6, .int .i64 a0_7, .int .i64 a0_8, .int .i64 a0_9, .slice A0_10 l0_10.length c0_10], .agg #[.int .i64 a1_0, .int .i64 a1_1, .int .i64 a1_2, .string a1_3, .int .i64 a1_4, .string a1_5, .string a1_6, .int .i64 a1_7, .int .i64 a1_8, .string a1_9, .string a1_10, .string a1_11, .string a1_12, .string a1_13, .string a1_14, .slice A1_15 l1_15.length c1_15, .slice A1_16 l1_16.length c1_16, .slice A1_17 l1_17.length c1_17, .int .i64 a1_18, .int .i64 a1_19, .int .i64 a1_20, .int .i64 a1_21, .int .i64 a1_22, .int .i64 a1_23], .int .i64 a2, .agg #[.string a3_0, .int .i64 a3_1, .string a3_2, .int .i64 a3_3, .int .i64 a3_4, .string a3_5]] rfl (by (try simp only [List.map_toArray, List.map_cons, List.map_nil]); first | done | rfl | (simp only [List.length_drop, List.length_take]; rfl)) ?_; (with_reducible refine (gate_Send.calls k a0_0 a0_1 a0_2 a0_3 a0_4 a0_5 a0_6 a0_7 a0_8 a0_9 _ _ l0_10 a1_0 a1_1 a1_2 a1_3 a1_4 a1_5 a1_6 a1_7 a1_8 a1_9 a1_10 a1_11 a1_12 a1_13 a1_14 _ _ l1_15 _ _ l1_16 _ _ l1_17 a1_18 a1_19 a1_20 a1_21 a1_22 a1_23 a2 a3_0 a3_1 a3_2 a3_3 a3_4 a3_5 t741 t742 t743 t744 t745 t746 t747 t748 _ ?side1 ?side2 ?side3 ?side4 ?side5 ?side6 ?side7 ?side8 A14.out).mono ?_); (case side1 => exact (Kd.C_below HR0_10.out HB.out)); (case side2 => exact HC0_10.out); (case side3 => exact (Kd.C_below HR1_15.out HB.out)); (case side4 => exact HC1_15.out); (case side5 => exact (Kd.C_below HR1_16.out HB.out)); (case side6 => exact HC1_16.out); (case side7 => exact (Kd.C_below HR1_17.out HB.out)); (case side8 => exact HC1_17.out); rintro e w32 ⟨rfl, hb⟩; refine ⟨_, rfl, ?_⟩; have n0_ := Aside0.mk (blk_below BK737.out hb); have n1_ := Aside0.mk (blk_below BK738.out hb); have n2_ := Aside0.mk (blk_below BK739.out hb); have n3_ := Aside0.mk (below_step HB.out hb); clear BK737; clear BK738; clear BK739; clear HB; have BK737 := n0_; have BK738 := n1_; have BK739 := n2_; have HB := n3_; clear n0_ n1_ n2_ n3_; (try clear hb); (try clear hb2); (try clear hk); (try clear hi)) | ((with_reducible refine gate_dst (N := 9) rfl ?_); refine box_event ?hg (N := 9) ?hd (cs := #[.string (⟨#[]⟩ : ByteArray), .int .i64 0, .string (⟨#[]⟩ : ByteArray), .int .i64 0, .int .i64 0, .string (⟨#[]⟩ : ByteArray)]) (t := 76) ?hr ?_; (case hd => rfl); (case hg => rfl); (case hr => first | (go_simp; done) | (go_simp; rfl)); intro gb749 hg w33 hbox hb; have n0_ := Aside0.mk (blk_below BK737.out hb); have n1_ := Aside0.mk (blk_below BK738.out hb); have n2_ := Aside0.mk (blk_below BK739.out hb); have n3_ := Aside0.mk (below_step HB.out hb); have n4_ := Aside0.mk (hbox); have n5_ := Aside0.mk ((by rw [hg]; exact (below_size HB.out) : w.heap.size ≤ gb749)); have n6_ := Aside0.mk ((by rw [hg]; exact (below_size HB.out) : w.heap.size ≤ gb749)); have n7_ := Aside0.mk ((by rw [hg]; exact Nat.ne_of_lt (blk_lt BK737.out) : gb737 ≠ gb749)); have n8_ := Aside0.mk ((by rw [hg]; exact Nat.ne_of_gt (blk_lt BK737.out) : gb749 ≠ gb737)); have n9_ := Aside0.mk ((by rw [hg]; exact Nat.ne_of_lt (blk_lt BK738.out) : gb738 ≠ gb749)); have n10_ := Aside0.mk ((by rw [hg]; exact Nat.ne_of_gt (blk_lt BK738.out) : gb749 ≠ gb738)); have n11_ := Aside0.mk ((by rw [hg]; exact Nat.ne_of_lt (blk_lt BK739.out) : gb739 ≠ gb749)); have n12_ := Aside0.mk ((by rw [hg]; exact Nat.ne_of_gt (blk_lt BK739.out) : gb749 ≠ gb739)); clear BK737; clear BK738; clear BK739; clear HB; have BK737 := n0_; have BK738 := n1_; have BK739 := n2_; have HB := n3_; have BK749 := n4_; have GW749 := n5_; have GE749 := n6_; have NB737_749 := n7_; have NB749_737 := n8_; have NB738_749 := n9_; have NB749_738 := n10_; have NB739_749 := n11_; have NB749_739 := n12_; clear n0_ n1_ n2_ n3_ n4_ n5_ n6_ n7_ n8_ n9_ n10_ n11_ n12_; clear hb hbox hg) | ((with_reducible refine gate_store (t := 76) (p := 9) rfl ?_); refine row_store_event (t := 76) (p := 9) (v := ?vo_w34) ?hgd ?ho ?hn gb749 #[.string t741, .int .i64 t742, .string t743, .int .i64 t744, .int .i64 t745, .string t746] ?hx ?hy 76 #[.string (⟨#[]⟩ : ByteArray), .int .i64 0, .string (⟨#[]⟩ : ByteArray), .int .i64 0, .int .i64 0, .string (⟨#[]⟩ : ByteArray)] ?hg ?hi ?hold ?h1 ?_; (case hgd => rfl); (case ho => rfl); (case hn => rfl); (case hx => rfl); (case hy => rfl); (case hg => exact (by (with_reducible repeat (first | refine blk_drewN ?_ _ | refine blk_drew ?_ | refine blk_alloc ?_ _)); exact BK749.out)); (case hi => kernel_rfl); (case hold => rfl); (case h1 => (first | kernel_rfl | simp [Value.oneCell'])); intro w34 hw; have n0_ : Aside0 (w34.heap[gb737]? = some (.cells #[.int .i64 a0_0, .int .i64 a0_1, .int .i64 a0_2, .int .i64 a0_3, .int .i64 a0_4, .int .i64 a0_5, .int .i64 a0_6, .int .i64 a0_7, .int .i64 a0_8, .int .i64 a0_9, .slice A0_10 l0_10.length c0_10] 24 (0, 0))) := ⟨(by rw [hw]; exact (by (with_reducible repeat (first | refine blk_drewN ?_ _ | refine blk_drew ?_ | refine blk_alloc ?_ _)); refine blk_farc ?_ NB737_749.out; (with_reducible repeat (first | refine blk_drewN ?_ _ | refine blk_drew ?_ | refine blk_alloc ?_ _)); exact BK737.out))⟩; have n1_ : Aside0 (w34.heap[gb738]? = some (.cells #[.int .i64 a1_0, .int .i64 a1_1, .int .i64 a1_2, .string a1_3, .int .i64 a1_4, .string a1_5, .string a1_6, .int .i64 a1_7, .int .i64 a1_8, .string a1_9, .string a1_10, .string a1_11, .string a1_12, .string a1_13, .string a1_14, .slice A1_15 l1_15.length c1_15, .slice A1_16 l1_16.length c1_16, .slice A1_17 l1_17.length c1_17, .int .i64 a1_18, .int .i64 a1_19, .int .i64 a1_20, .int .i64 a1_21, .int .i64 a1_22, .int .i64 a1_23] 44 (0, 0))) := ⟨(by rw [hw]; exact (by (with_reducible repeat (first | refine blk_drewN ?_ _ | refine blk_drew ?_ | refine blk_alloc ?_ _)); refine blk_farc ?_ NB738_749.out; (with_reducible repeat (first | refine blk_drewN ?_ _ | refine blk_drew ?_ | refine blk_alloc ?_ _)); exact BK738.out))⟩; have n2_ : Aside0 (w34.heap[gb739]? = some (.cells #[.string a3_0, .int .i64 a3_1, .string a3_2, .int .i64 a3_3, .int .i64 a3_4, .string a3_5] 76 (0, 0))) := ⟨(by rw [hw]; exact (by (with_reducible repeat (first | refine blk_drewN ?_ _ | refine blk_drew ?_ | refine blk_alloc ?_ _)); refine blk_farc ?_ NB739_749.out; (with_reducible repeat (first | refine blk_drewN ?_ _ | refine blk_drew ?_ | refine blk_alloc ?_ _)); exact BK739.out))⟩; have n3_ : Aside0 (w34.heap[gb749]? = some (.cells #[.string t741, .int .i64 t742, .string t743, .int .i64 t744, .int .i64 t745, .string t746] 76 (0, 0))) := ⟨(by rw [hw]; exact (by (with_reducible repeat (first | refine blk_drewN ?_ _ | refine blk_drew ?_ | refine blk_alloc ?_ _)); refine setRow_heap _ _ #[.string (⟨#[]⟩ : ByteArray), .int .i64 0, .string (⟨#[]⟩ : ByteArray), .int .i64 0, .int .i64 0, .string (⟨#[]⟩ : ByteArray)] _ 76 (0, 0) ?_; (with_reducible repeat (first | refine blk_drewN ?_ _ | refine blk_drew ?_ | refine blk_alloc ?_ _)); exact BK749.out))⟩; have n4_ : Aside0 (Below w.heap.size w w34) := ⟨(by rw [hw]; exact (by repeat (first | (with_reducible first | exact HB.out | refine below_setc ?_ GE749.out | apply below_alloc | apply pw_below_drewN | apply below_drew1 | refine below_set ?_ GE737.out | refine below_set ?_ GE738.out | refine below_set ?_ GE739.out | refine below_set ?_ GE749.out) | exact HB.out)))⟩; clear hw; clear BK737; clear BK738; clear BK739; clear BK749; clear HB; have BK737 := n0_; have BK738 := n1_; have BK739 := n2_; have BK749 := n3_; have HB := n4_; clear n0_ n1_ n2_ n3_ n4_; have hnb35 := NB737_749.out; have hnc35 := NB749_737.out; have hall9_ := cells_11 BK737.out; have hall10_ := frozen_11 BK737.out; have hnb37 := NB738_749.out; have hnc37 := NB749_738.out; have hall11_ := cells_24 BK738.out; have hall12_ := frozen_24 BK738.out; have hnb39 := NB739_749.out; have hnc39 := NB749_739.out; have hall13_ := cells_6 BK739.out; have hall14_ := frozen_6 BK739.out) | ((with_reducible refine gate_callee (f := 67) rfl ?_); refine goesL_ (some 34) rfl rfl Try.func67 (by kernel_rfl) rfl #[.agg #[.int .i64 a0_0, .int .i64 a0_1, .int .i64 a0_2, .int .i64 a0_3, .int .i64 a0_4, .int .i64 a0_5, .int .i64 a0_6, .int .i64 a0_7, .int .i64 a0_8, .int .i64 a0_9, .slice A0_10 l0_10.length c0_10], .agg #[.int .i64 a1_0, .int .i64 a1_1, .int .i64 a1_2, .string a1_3, .int .i64 a1_4, .string a1_5, .string a1_6, .int .i64 a1_7, .int .i64 a1_8, .string a1_9, .string a1_10, .string a1_11, .string a1_12, .string a1_13, .string a1_14, .slice A1_15 l1_15.length c1_15, .slice A1_16 l1_16.length c1_16, .slice A1_17 l1_17.length c1_17, .int .i64 a1_18, .int .i64 a1_19, .int .i64 a1_20, .int .i64 a1_21, .int .i64 a1_22, .int .i64 a1_23], .int .i64 a2, .agg #[.string a3_0, .int .i64 a3_1, .string a3_2, .int .i64 a3_3, .int .i64 a3_4, .string a3_5]] rfl (by (try simp only [List.map_toArray, List.map_cons, List.map_nil]); first | done | rfl | (simp only [List.length_drop, List.length_take]; rfl)) ?_; (with_reducible refine (bellwetherref23_Send.calls k a0_0 a0_1 a0_2 a0_3 a0_4 a0_5 a0_6 a0_7 a0_8 a0_9 _ _ l0_10 a1_0 a1_1 a1_2 a1_3 a1_4 a1_5 a1_6 a1_7 a1_8 a1_9 a1_10 a1_11 a1_12 a1_13 a1_14 _ _ l1_15 _ _ l1_16 _ _ l1_17 a1_18 a1_19 a1_20 a1_21 a1_22 a1_23 a2 a3_0 a3_1 a3_2 a3_3 a3_4 a3_5 t750 t751 t752 t753 t754 t755 t756 t757 _ ?side1 ?side2 ?side3 ?side4 ?side5 ?side6 ?side7 ?side8 A15.out).mono ?_); (case side1 => exact (Kd.C_below HR0_10.out HB.out)); (case side2 => exact HC0_10.out); (case side3 => exact (Kd.C_below HR1_15.out HB.out)); (case side4 => exact HC1_15.out); (case side5 => exact (Kd.C_below HR1_16.out HB.out)); (case side6 => exact HC1_16.out); (case side7 => exact (Kd.C_below HR1_17.out HB.out)); (case side8 => exact HC1_17.out); rintro e w41 ⟨rfl, hb⟩; refine ⟨_, rfl, ?_⟩; have n0_ := Aside0.mk (blk_below BK737.out hb); have n1_ := Aside0.mk (blk_below BK738.out hb); have n2_ := Aside0.mk (blk_below BK739.out hb); have n3_ := Aside0.mk (blk_below BK749.out hb); have n4_ := Aside0.mk (below_step HB.out hb); clear BK737; clear BK738; clear BK739; clear BK749; clear HB; have BK737 := n0_; have BK738 := n1_; have BK739 := n2_; have BK749 := n3_; have HB := n4_; clear n0_ n1_ n2_ n3_ n4_; (try clear hb); (try clear hb2); (try clear hk); (try clear hi)) | ((with_reducible refine gate_dst (N := 12) rfl ?_); refine box_event ?hg (N := 12) ?hd (cs := #[.string (⟨#[]⟩ : ByteArray), .int .i64 0, .string (⟨#[]⟩ : ByteArray), .int .i64 0, .int .i64 0, .string (⟨#[]⟩ : ByteArray)]) (t := 76) ?hr ?_; (case hd => rfl); (case hg => rfl); (case hr => first | (go_simp; done) | (go_simp; rfl)); intro gb758 hg w42 hbox hb; have n0_ := Aside0.mk (blk_below BK737.out hb); have n1_ := Aside0.mk (blk_below BK738.out hb); have n2_ := Aside0.mk (blk_below BK739.out hb); have n3_ := Aside0.mk (blk_below BK749.out hb); have n4_ := Aside0.mk (below_step HB.out hb); have n5_ := Aside0.mk (hbox); have n6_ := Aside0.mk ((by rw [hg]; exact (below_size HB.out) : w.heap.size ≤ gb758)); have n7_ := Aside0.mk ((by rw [hg]; exact (below_size HB.out) : w.heap.size ≤ gb758)); have n8_ := Aside0.mk ((by rw [hg]; exact Nat.ne_of_lt (blk_lt BK737.out) : gb737 ≠ gb758)); have n9_ := Aside0.mk ((by rw [hg]; exact Nat.ne_of_gt (blk_lt BK737.out) : gb758 ≠ gb737)); have n10_ := Aside0.mk ((by rw [hg]; exact Nat.ne_of_lt (blk_lt BK738.out) : gb738 ≠ gb758)); have n11_ := Aside0.mk ((by rw [hg]; exact Nat.ne_of_gt (blk_lt BK738.out) : gb758 ≠ gb738)); have n12_ := Aside0.mk ((by rw [hg]; exact Nat.ne_of_lt (blk_lt BK739.out) : gb739 ≠ gb758)); have n13_ := Aside0.mk ((by rw [hg]; exact Nat.ne_of_gt (blk_lt BK739.out) : gb758 ≠ gb739)); have n14_ := Aside0.mk ((by rw [hg]; exact Nat.ne_of_lt (blk_lt BK749.out) : gb749 ≠ gb758)); have n15_ := Aside0.mk ((by rw [hg]; exact Nat.ne_of_gt (blk_lt BK749.out) : gb758 ≠ gb749)); clear BK737; clear BK738; clear BK739; clear BK749; clear HB; have BK737 := n0_; have BK738 := n1_; have BK739 := n2_; have BK749 := n3_; have HB := n4_; have BK758 := n5_; have GW758 := n6_; have GE758 := n7_; have NB737_758 := n8_; have NB758_737 := n9_; have NB738_758 := n10_; have NB758_738 := n11_; have NB739_758 := n12_; have NB758_739 := n13_; have NB749_758 := n14_; have NB758_749 := n15_; clear n0_ n1_ n2_ n3_ n4_ n5_ n6_ n7_ n8_ n9_ n10_ n11_ n12_ n13_ n14_ n15_; clear hb hbox hg) | ((with_reducible refine gate_store (t := 76) (p := 12) rfl ?_); refine row_store_event (t := 76) (p := 12) (v := ?vo_w43) ?hgd ?ho ?hn gb758 #[.string t750, .int .i64 t751, .string t752, .int .i64 t753, .int .i64 t754, .string t755] ?hx ?hy 76 #[.string (⟨#[]⟩ : ByteArray), .int .i64 0, .string (⟨#[]⟩ : ByteArray), .int .i64 0, .int .i64 0, .string (⟨#[]⟩ : ByteArray)] ?hg ?hi ?hold ?h1 ?_; (case hgd => rfl); (case ho => rfl); (case hn => rfl); (case hx => rfl); (case hy => rfl); (case hg => exact (by (with_reducible repeat (first | refine blk_drewN ?_ _ | refine blk_drew ?_ | refine blk_alloc ?_ _)); exact BK758.out)); (case hi => kernel_rfl); (case hold => rfl); (case h1 => (first | kernel_rfl | simp [Value.oneCell'])); intro w43 hw; have n0_ : Aside0 (w43.heap[gb737]? = some (.cells #[.int .i64 a0_0, .int .i64 a0_1, .int .i64 a0_2, .int .i64 a0_3, .int .i64 a0_4, .int .i64 a0_5, .int .i64 a0_6, .int .i64 a0_7, .int .i64 a0_8, .int .i64 a0_9, .slice A0_10 l0_10.length c0_10] 24 (0, 0))) := ⟨(by rw [hw]; exact (by (with_reducible repeat (first | refine blk_drewN ?_ _ | refine blk_drew ?_ | refine blk_alloc ?_ _)); refine blk_farc ?_ NB737_758.out; (with_reducible repeat (first | refine blk_drewN ?_ _ | refine blk_drew ?_ | refine blk_alloc ?_ _)); exact BK737.out))⟩; have n1_ : Aside0 (w43.heap[gb738]? = some (.cells #[.int .i64 a1_0, .int .i64 a1_1, .int .i64 a1_2, .string a1_3, .int .i64 a1_4, .string a1_5, .string a1_6, .int .i64 a1_7, .int .i64 a1_8, .string a1_9, .string a1_10, .string a1_11, .string a1_12, .string a1_13, .string a1_14, .slice A1_15 l1_15.length c1_15, .slice A1_16 l1_16.length c1_16, .slice A1_17 l1_17.length c1_17, .int .i64 a1_18, .int .i64 a1_19, .int .i64 a1_20, .int .i64 a1_21, .int .i64 a1_22, .int .i64 a1_23] 44 (0, 0))) := ⟨(by rw [hw]; exact (by (with_reducible repeat (first | refine blk_drewN ?_ _ | refine blk_drew ?_ | refine blk_alloc ?_ _)); refine blk_farc ?_ NB738_758.out; (with_reducible repeat (first | refine blk_drewN ?_ _ | refine blk_drew ?_ | refine blk_alloc ?_ _)); exact BK738.out))⟩; have n2_ : Aside0 (w43.heap[gb739]? = some (.cells #[.string a3_0, .int .i64 a3_1, .string a3_2, .int .i64 a3_3, .int .i64 a3_4, .string a3_5] 76 (0, 0))) := ⟨(by rw [hw]; exact (by (with_reducible repeat (first | refine blk_drewN ?_ _ | refine blk_drew ?_ | refine blk_alloc ?_ _)); refine blk_farc ?_ NB739_758.out; (with_reducible repeat (first | refine blk_drewN ?_ _ | refine blk_drew ?_ | refine blk_alloc ?_ _)); exact BK739.out))⟩; have n3_ : Aside0 (w43.heap[gb749]? = some (.cells #[.string t741, .int .i64 t742, .string t743, .int .i64 t744, .int .i64 t745, .string t746] 76 (0, 0))) := ⟨(by rw [hw]; exact (by (with_reducible repeat (first | refine blk_drewN ?_ _ | refine blk_drew ?_ | refine blk_alloc ?_ _)); refine blk_farc ?_ NB749_758.out; (with_reducible repeat (first | refine blk_drewN ?_ _ | refine blk_drew ?_ | refine blk_alloc ?_ _)); exact BK749.out))⟩; have n4_ : Aside0 (w43.heap[gb758]? = some (.cells #[.string t750, .int .i64 t751, .string t752, .int .i64 t753, .int .i64 t754, .string t755] 76 (0, 0))) := ⟨(by rw [hw]; exact (by (with_reducible repeat (first | refine blk_drewN ?_ _ | refine blk_drew ?_ | refine blk_alloc ?_ _)); refine setRow_heap _ _ #[.string (⟨#[]⟩ : ByteArray), .int .i64 0, .string (⟨#[]⟩ : ByteArray), .int .i64 0, .int .i64 0, .string (⟨#[]⟩ : ByteArray)] _ 76 (0, 0) ?_; (with_reducible repeat (first | refine blk_drewN ?_ _ | refine blk_drew ?_ | refine blk_alloc ?_ _)); exact BK758.out))⟩; have n5_ : Aside0 (Below w.heap.size w w43) := ⟨(by rw [hw]; exact (by repeat (first | (with_reducible first | exact HB.out | refine below_setc ?_ GE758.out | apply below_alloc | apply pw_below_drewN | apply below_drew1 | refine below_set ?_ GE737.out | refine below_set ?_ GE738.out | refine below_set ?_ GE739.out | refine below_set ?_ GE749.out | refine below_set ?_ GE758.out) | exact HB.out)))⟩; clear hw; clear BK737; clear BK738; clear BK739; clear BK749; clear BK758; clear HB; have BK737 := n0_; have BK738 := n1_; have BK739 := n2_; have BK749 := n3_; have BK758 := n4_; have HB := n5_; clear n0_ n1_ n2_ n3_ n4_ n5_))
      have n0_ := Aside0.mk (blk_drew BK737.out)
      have n1_ := Aside0.mk (blk_drew BK738.out)
      have n2_ := Aside0.mk (blk_drew BK739.out)
      have n3_ := Aside0.mk (blk_drew BK749.out)
      have n4_ := Aside0.mk (blk_drew BK758.out)
      have n5_ := Aside0.mk (below_drew1 HB.out)
      clear BK737
      clear BK738
      clear BK739
      clear BK749
      clear BK758
      clear HB
      have BK737 := n0_
      have BK738 := n1_
      have BK739 := n2_
      have BK749 := n3_
      have BK758 := n4_
      have HB := n5_
      clear n0_ n1_ n2_ n3_ n4_ n5_
      refine start_ (n := 30) (S := fun w' => w'.cell? ⟨gb737, 0, none⟩ = some (.int .i64 a0_0) ∧ w'.cell? ⟨gb737, 1, none⟩ = some (.int .i64 a0_1) ∧ w'.cell? ⟨gb737, 2, none⟩ = some (.int .i64 a0_2) ∧ w'.cell? ⟨gb737, 3, none⟩ = some (.int .i64 a0_3) ∧ w'.cell? ⟨gb737, 4, none⟩ = some (.int .i64 a0_4) ∧ w'.cell? ⟨gb737, 5, none⟩ = some (.int .i64 a0_5) ∧ w'.cell? ⟨gb737, 6, none⟩ = some (.int .i64 a0_6) ∧ w'.cell? ⟨gb737, 7, none⟩ = some (.int .i64 a0_7) ∧ w'.cell? ⟨gb737, 8, none⟩ = some (.int .i64 a0_8) ∧ w'.cell? ⟨gb737, 9, none⟩ = some (.int .i64 a0_9) ∧ w'.cell? ⟨gb737, 10, none⟩ = some (.slice A0_10 l0_10.length c0_10) ∧ w'.cell? ⟨gb738, 0, none⟩ = some (.int .i64 a1_0) ∧ w'.cell? ⟨gb738, 1, none⟩ = some (.int .i64 a1_1) ∧ w'.cell? ⟨gb738, 2, none⟩ = some (.int .i64 a1_2) ∧ w'.cell? ⟨gb738, 3, none⟩ = some (.string a1_3) ∧ w'.cell? ⟨gb738, 4, none⟩ = some (.int .i64 a1_4) ∧ w'.cell? ⟨gb738, 5, none⟩ = some (.string a1_5) ∧ w'.cell? ⟨gb738, 6, none⟩ = some (.string a1_6) ∧ w'.cell? ⟨gb738, 7, none⟩ = some (.int .i64 a1_7) ∧ w'.cell? ⟨gb738, 8, none⟩ = some (.int .i64 a1_8) ∧ w'.cell? ⟨gb738, 9, none⟩ = some (.string a1_9) ∧ w'.cell? ⟨gb738, 10, none⟩ = some (.string a1_10) ∧ w'.cell? ⟨gb738, 11, none⟩ = some (.string a1_11) ∧ w'.cell? ⟨gb738, 12, none⟩ = some (.string a1_12) ∧ w'.cell? ⟨gb738, 13, none⟩ = some (.string a1_13) ∧ w'.cell? ⟨gb738, 14, none⟩ = some (.string a1_14) ∧ w'.cell? ⟨gb738, 15, none⟩ = some (.slice A1_15 l1_15.length c1_15) ∧ w'.cell? ⟨gb738, 16, none⟩ = some (.slice A1_16 l1_16.length c1_16) ∧ w'.cell? ⟨gb738, 17, none⟩ = some (.slice A1_17 l1_17.length c1_17) ∧ w'.cell? ⟨gb738, 18, none⟩ = some (.int .i64 a1_18) ∧ w'.cell? ⟨gb738, 19, none⟩ = some (.int .i64 a1_19) ∧ w'.cell? ⟨gb738, 20, none⟩ = some (.int .i64 a1_20) ∧ w'.cell? ⟨gb738, 21, none⟩ = some (.int .i64 a1_21) ∧ w'.cell? ⟨gb738, 22, none⟩ = some (.int .i64 a1_22) ∧ w'.cell? ⟨gb738, 23, none⟩ = some (.int .i64 a1_23) ∧ w'.cell? ⟨gb739, 0, none⟩ = some (.string a3_0) ∧ w'.cell? ⟨gb739, 1, none⟩ = some (.int .i64 a3_1) ∧ w'.cell? ⟨gb739, 2, none⟩ = some (.string a3_2) ∧ w'.cell? ⟨gb739, 3, none⟩ = some (.int .i64 a3_3) ∧ w'.cell? ⟨gb739, 4, none⟩ = some (.int .i64 a3_4) ∧ w'.cell? ⟨gb739, 5, none⟩ = some (.string a3_5) ∧ w'.cell? ⟨gb749, 0, none⟩ = some (.string t741) ∧ w'.cell? ⟨gb749, 1, none⟩ = some (.int .i64 t742) ∧ w'.cell? ⟨gb749, 2, none⟩ = some (.string t743) ∧ w'.cell? ⟨gb749, 3, none⟩ = some (.int .i64 t744) ∧ w'.cell? ⟨gb749, 4, none⟩ = some (.int .i64 t745) ∧ w'.cell? ⟨gb749, 5, none⟩ = some (.string t746) ∧ w'.cell? ⟨gb758, 0, none⟩ = some (.string t750) ∧ w'.cell? ⟨gb758, 1, none⟩ = some (.int .i64 t751) ∧ w'.cell? ⟨gb758, 2, none⟩ = some (.string t752) ∧ w'.cell? ⟨gb758, 3, none⟩ = some (.int .i64 t753) ∧ w'.cell? ⟨gb758, 4, none⟩ = some (.int .i64 t754) ∧ w'.cell? ⟨gb758, 5, none⟩ = some (.string t755)) (ds := []) #[false, false, false, false, false, false, false, false, false, false, false, false, false, false, false, false, false, false, false, false, false, false, false, false, false, false, false, false, false, false] (by kernel_rfl) rfl rfl ⟨(blk_cell BK737.out 0).trans rfl, (blk_cell BK737.out 1).trans rfl, (blk_cell BK737.out 2).trans rfl, (blk_cell BK737.out 3).trans rfl, (blk_cell BK737.out 4).trans rfl, (blk_cell BK737.out 5).trans rfl, (blk_cell BK737.out 6).trans rfl, (blk_cell BK737.out 7).trans rfl, (blk_cell BK737.out 8).trans rfl, (blk_cell BK737.out 9).trans rfl, (blk_cell BK737.out 10).trans rfl, (blk_cell BK738.out 0).trans rfl, (blk_cell BK738.out 1).trans rfl, (blk_cell BK738.out 2).trans rfl, (blk_cell BK738.out 3).trans rfl, (blk_cell BK738.out 4).trans rfl, (blk_cell BK738.out 5).trans rfl, (blk_cell BK738.out 6).trans rfl, (blk_cell BK738.out 7).trans rfl, (blk_cell BK738.out 8).trans rfl, (blk_cell BK738.out 9).trans rfl, (blk_cell BK738.out 10).trans rfl, (blk_cell BK738.out 11).trans rfl, (blk_cell BK738.out 12).trans rfl, (blk_cell BK738.out 13).trans rfl, (blk_cell BK738.out 14).trans rfl, (blk_cell BK738.out 15).trans rfl, (blk_cell BK738.out 16).trans rfl, (blk_cell BK738.out 17).trans rfl, (blk_cell BK738.out 18).trans rfl, (blk_cell BK738.out 19).trans rfl, (blk_cell BK738.out 20).trans rfl, (blk_cell BK738.out 21).trans rfl, (blk_cell BK738.out 22).trans rfl, (blk_cell BK738.out 23).trans rfl, (blk_cell BK739.out 0).trans rfl, (blk_cell BK739.out 1).trans rfl, (blk_cell BK739.out 2).trans rfl, (blk_cell BK739.out 3).trans rfl, (blk_cell BK739.out 4).trans rfl, (blk_cell BK739.out 5).trans rfl, (blk_cell BK749.out 0).trans rfl, (blk_cell BK749.out 1).trans rfl, (blk_cell BK749.out 2).trans rfl, (blk_cell BK749.out 3).trans rfl, (blk_cell BK749.out 4).trans rfl, (blk_cell BK749.out 5).trans rfl, (blk_cell BK758.out 0).trans rfl, (blk_cell BK758.out 1).trans rfl, (blk_cell BK758.out 2).trans rfl, (blk_cell BK758.out 3).trans rfl, (blk_cell BK758.out 4).trans rfl, (blk_cell BK758.out 5).trans rfl⟩ (fun hHeld => ?_); refine with_tabW bellwetherlaw23_GateSends.tab5 bellwetherlaw23_GateSends.bits5 (fun HT_ HW_ => ?_)
      generalize w43.drew = w44 at BK737 BK738 BK739 BK749 BK758 HB hHeld ⊢
      refine pure_ (i := 2) (N := some 40) (v := ?_) (a' := ?_) #[false, false, true, false, false, false, false, false, false, false, false, false, false, false, false, false, false, false, false, false, false, false, false, false, false, false, false, false, false, false] rfl rfl (any_of HT_.out (by kernel_rfl)) (fun _ _ _ h => h) (Or.inl ⟨by rfl, ?_⟩) ?_ ?_
      rotate_left
      ·intro w'
       go_simp
       with_reducible rfl
      rotate_left
      ·simp only [Act.put, List.setIfInBounds_toArray, List.set_cons_zero, List.set_cons_succ, i64_w, i32_w]
       rfl
      refine pure_ (i := 7) (N := some 45) (v := ?_) (a' := ?_) #[false, false, true, false, false, false, false, true, false, false, false, false, false, false, false, false, false, false, false, false, false, false, false, false, false, false, false, false, false, false] rfl rfl (any_of HT_.out (by kernel_rfl)) (fun _ _ _ h => h) (Or.inl ⟨by rfl, ?_⟩) ?_ ?_
      rotate_left
      ·intro w'
       go_simp
       with_reducible rfl
      rotate_left
      ·simp only [Act.put, List.setIfInBounds_toArray, List.set_cons_zero, List.set_cons_succ, i64_w, i32_w]
       rfl
      refine take_ (i := 0) (N := some 38) (v := ?_) (a' := ?_) #[true, false, true, false, false, false, false, true, false, false, false, false, false, false, false, false, false, false, false, false, false, false, false, false, false, false, false, false, false, false] rfl rfl (take_ofW HT_.out HW_.out (by kernel_rfl)) (fun _ _ _ h => h) (Or.inl ⟨by rfl, ?_⟩) hHeld ?_ ?_
      rotate_left
      ·rintro w' ⟨s0, s1, s2, s3, s4, s5, s6, s7, s8, s9, s10, s11, s12, s13, s14, s15, s16, s17, s18, s19, s20, s21, s22, s23, s24, s25, s26, s27, s28, s29, s30, s31, s32, s33, s34, s35, s36, s37, s38, s39, s40, s41, s42, s43, s44, s45, s46, s47, s48, s49, s50, s51, s52⟩
       (first | (refine load_cells_11 (ty := 24) (x := .tmp 4) (g := gb737) ?hlo_ ?hx_ Try.underlying24 ?hd_ ?hi_ s0 s1 s2 s3 s4 s5 s6 s7 s8 s9 s10; (case hlo_ => rfl); (case hx_ => rfl); (case hd_ => rfl); (case hi_ => kernel_rfl)) | (refine load_cells_24 (ty := 44) (x := .tmp 5) (g := gb738) ?hlo_ ?hx_ Try.underlying44 ?hd_ ?hi_ s11 s12 s13 s14 s15 s16 s17 s18 s19 s20 s21 s22 s23 s24 s25 s26 s27 s28 s29 s30 s31 s32 s33 s34; (case hlo_ => rfl); (case hx_ => rfl); (case hd_ => rfl); (case hi_ => kernel_rfl)) | (refine load_cells_6 (ty := 76) (x := .tmp 7) (g := gb739) ?hlo_ ?hx_ Try.underlying76 ?hd_ ?hi_ s35 s36 s37 s38 s39 s40; (case hlo_ => rfl); (case hx_ => rfl); (case hd_ => rfl); (case hi_ => kernel_rfl)) | (refine load_cells_6 (ty := 76) (x := .tmp 9) (g := gb749) ?hlo_ ?hx_ Try.underlying76 ?hd_ ?hi_ s41 s42 s43 s44 s45 s46; (case hlo_ => rfl); (case hx_ => rfl); (case hd_ => rfl); (case hi_ => kernel_rfl)) | (refine load_cells_6 (ty := 76) (x := .tmp 12) (g := gb758) ?hlo_ ?hx_ Try.underlying76 ?hd_ ?hi_ s47 s48 s49 s50 s51 s52; (case hlo_ => rfl); (case hx_ => rfl); (case hd_ => rfl); (case hi_ => kernel_rfl)) | (go_simp; with_reducible rfl))
      rotate_left
      ·simp only [Act.put, List.setIfInBounds_toArray, List.set_cons_zero, List.set_cons_succ, i64_w, i32_w]
       rfl
      refine take_ (i := 1) (N := some 39) (v := ?_) (a' := ?_) #[true, true, true, false, false, false, false, true, false, false, false, false, false, false, false, false, false, false, false, false, false, false, false, false, false, false, false, false, false, false] rfl rfl (take_ofW HT_.out HW_.out (by kernel_rfl)) (fun _ _ _ h => h) (Or.inl ⟨by rfl, ?_⟩) hHeld ?_ ?_
      rotate_left
      ·rintro w' ⟨s0, s1, s2, s3, s4, s5, s6, s7, s8, s9, s10, s11, s12, s13, s14, s15, s16, s17, s18, s19, s20, s21, s22, s23, s24, s25, s26, s27, s28, s29, s30, s31, s32, s33, s34, s35, s36, s37, s38, s39, s40, s41, s42, s43, s44, s45, s46, s47, s48, s49, s50, s51, s52⟩
       (first | (refine load_cells_11 (ty := 24) (x := .tmp 4) (g := gb737) ?hlo_ ?hx_ Try.underlying24 ?hd_ ?hi_ s0 s1 s2 s3 s4 s5 s6 s7 s8 s9 s10; (case hlo_ => rfl); (case hx_ => rfl); (case hd_ => rfl); (case hi_ => kernel_rfl)) | (refine load_cells_24 (ty := 44) (x := .tmp 5) (g := gb738) ?hlo_ ?hx_ Try.underlying44 ?hd_ ?hi_ s11 s12 s13 s14 s15 s16 s17 s18 s19 s20 s21 s22 s23 s24 s25 s26 s27 s28 s29 s30 s31 s32 s33 s34; (case hlo_ => rfl); (case hx_ => rfl); (case hd_ => rfl); (case hi_ => kernel_rfl)) | (refine load_cells_6 (ty := 76) (x := .tmp 7) (g := gb739) ?hlo_ ?hx_ Try.underlying76 ?hd_ ?hi_ s35 s36 s37 s38 s39 s40; (case hlo_ => rfl); (case hx_ => rfl); (case hd_ => rfl); (case hi_ => kernel_rfl)) | (refine load_cells_6 (ty := 76) (x := .tmp 9) (g := gb749) ?hlo_ ?hx_ Try.underlying76 ?hd_ ?hi_ s41 s42 s43 s44 s45 s46; (case hlo_ => rfl); (case hx_ => rfl); (case hd_ => rfl); (case hi_ => kernel_rfl)) | (refine load_cells_6 (ty := 76) (x := .tmp 12) (g := gb758) ?hlo_ ?hx_ Try.underlying76 ?hd_ ?hi_ s47 s48 s49 s50 s51 s52; (case hlo_ => rfl); (case hx_ => rfl); (case hd_ => rfl); (case hi_ => kernel_rfl)) | (go_simp; with_reducible rfl))
      rotate_left
      ·simp only [Act.put, List.setIfInBounds_toArray, List.set_cons_zero, List.set_cons_succ, i64_w, i32_w]
       rfl
      refine take_ (i := 3) (N := some 41) (v := ?_) (a' := ?_) #[true, true, true, true, false, false, false, true, false, false, false, false, false, false, false, false, false, false, false, false, false, false, false, false, false, false, false, false, false, false] rfl rfl (take_ofW HT_.out HW_.out (by kernel_rfl)) (fun _ _ _ h => h) (Or.inl ⟨by rfl, ?_⟩) hHeld ?_ ?_
      rotate_left
      ·rintro w' ⟨s0, s1, s2, s3, s4, s5, s6, s7, s8, s9, s10, s11, s12, s13, s14, s15, s16, s17, s18, s19, s20, s21, s22, s23, s24, s25, s26, s27, s28, s29, s30, s31, s32, s33, s34, s35, s36, s37, s38, s39, s40, s41, s42, s43, s44, s45, s46, s47, s48, s49, s50, s51, s52⟩
       (first | (refine load_cells_11 (ty := 24) (x := .tmp 4) (g := gb737) ?hlo_ ?hx_ Try.underlying24 ?hd_ ?hi_ s0 s1 s2 s3 s4 s5 s6 s7 s8 s9 s10; (case hlo_ => rfl); (case hx_ => rfl); (case hd_ => rfl); (case hi_ => kernel_rfl)) | (refine load_cells_24 (ty := 44) (x := .tmp 5) (g := gb738) ?hlo_ ?hx_ Try.underlying44 ?hd_ ?hi_ s11 s12 s13 s14 s15 s16 s17 s18 s19 s20 s21 s22 s23 s24 s25 s26 s27 s28 s29 s30 s31 s32 s33 s34; (case hlo_ => rfl); (case hx_ => rfl); (case hd_ => rfl); (case hi_ => kernel_rfl)) | (refine load_cells_6 (ty := 76) (x := .tmp 7) (g := gb739) ?hlo_ ?hx_ Try.underlying76 ?hd_ ?hi_ s35 s36 s37 s38 s39 s40; (case hlo_ => rfl); (case hx_ => rfl); (case hd_ => rfl); (case hi_ => kernel_rfl)) | (refine load_cells_6 (ty := 76) (x := .tmp 9) (g := gb749) ?hlo_ ?hx_ Try.underlying76 ?hd_ ?hi_ s41 s42 s43 s44 s45 s46; (case hlo_ => rfl); (case hx_ => rfl); (case hd_ => rfl); (case hi_ => kernel_rfl)) | (refine load_cells_6 (ty := 76) (x := .tmp 12) (g := gb758) ?hlo_ ?hx_ Try.underlying76 ?hd_ ?hi_ s47 s48 s49 s50 s51 s52; (case hlo_ => rfl); (case hx_ => rfl); (case hd_ => rfl); (case hi_ => kernel_rfl)) | (go_simp; with_reducible rfl))
      rotate_left
      ·simp only [Act.put, List.setIfInBounds_toArray, List.set_cons_zero, List.set_cons_succ, i64_w, i32_w]
       rfl
      refine take_ (i := 5) (N := some 43) (v := ?_) (a' := ?_) #[true, true, true, true, false, true, false, true, false, false, false, false, false, false, false, false, false, false, false, false, false, false, false, false, false, false, false, false, false, false] rfl rfl (take_ofW HT_.out HW_.out (by kernel_rfl)) (fun _ _ _ h => h) (Or.inl ⟨by rfl, ?_⟩) hHeld ?_ ?_
      rotate_left
      ·rintro w' ⟨s0, s1, s2, s3, s4, s5, s6, s7, s8, s9, s10, s11, s12, s13, s14, s15, s16, s17, s18, s19, s20, s21, s22, s23, s24, s25, s26, s27, s28, s29, s30, s31, s32, s33, s34, s35, s36, s37, s38, s39, s40, s41, s42, s43, s44, s45, s46, s47, s48, s49, s50, s51, s52⟩
       (first | (refine load_cells_11 (ty := 24) (x := .tmp 4) (g := gb737) ?hlo_ ?hx_ Try.underlying24 ?hd_ ?hi_ s0 s1 s2 s3 s4 s5 s6 s7 s8 s9 s10; (case hlo_ => rfl); (case hx_ => rfl); (case hd_ => rfl); (case hi_ => kernel_rfl)) | (refine load_cells_24 (ty := 44) (x := .tmp 5) (g := gb738) ?hlo_ ?hx_ Try.underlying44 ?hd_ ?hi_ s11 s12 s13 s14 s15 s16 s17 s18 s19 s20 s21 s22 s23 s24 s25 s26 s27 s28 s29 s30 s31 s32 s33 s34; (case hlo_ => rfl); (case hx_ => rfl); (case hd_ => rfl); (case hi_ => kernel_rfl)) | (refine load_cells_6 (ty := 76) (x := .tmp 7) (g := gb739) ?hlo_ ?hx_ Try.underlying76 ?hd_ ?hi_ s35 s36 s37 s38 s39 s40; (case hlo_ => rfl); (case hx_ => rfl); (case hd_ => rfl); (case hi_ => kernel_rfl)) | (refine load_cells_6 (ty := 76) (x := .tmp 9) (g := gb749) ?hlo_ ?hx_ Try.underlying76 ?hd_ ?hi_ s41 s42 s43 s44 s45 s46; (case hlo_ => rfl); (case hx_ => rfl); (case hd_ => rfl); (case hi_ => kernel_rfl)) | (refine load_cells_6 (ty := 76) (x := .tmp 12) (g := gb758) ?hlo_ ?hx_ Try.underlying76 ?hd_ ?hi_ s47 s48 s49 s50 s51 s52; (case hlo_ => rfl); (case hx_ => rfl); (case hd_ => rfl); (case hi_ => kernel_rfl)) | (go_simp; with_reducible rfl))
      rotate_left
      ·simp only [Act.put, List.setIfInBounds_toArray, List.set_cons_zero, List.set_cons_succ, i64_w, i32_w]
       rfl
      refine take_ (i := 6) (N := some 44) (v := ?_) (a' := ?_) #[true, true, true, true, false, true, true, true, false, false, false, false, false, false, false, false, false, false, false, false, false, false, false, false, false, false, false, false, false, false] rfl rfl (take_ofW HT_.out HW_.out (by kernel_rfl)) (fun _ _ _ h => h) (Or.inl ⟨by rfl, ?_⟩) hHeld ?_ ?_
      rotate_left
      ·rintro w' ⟨s0, s1, s2, s3, s4, s5, s6, s7, s8, s9, s10, s11, s12, s13, s14, s15, s16, s17, s18, s19, s20, s21, s22, s23, s24, s25, s26, s27, s28, s29, s30, s31, s32, s33, s34, s35, s36, s37, s38, s39, s40, s41, s42, s43, s44, s45, s46, s47, s48, s49, s50, s51, s52⟩
       (first | (refine load_cells_11 (ty := 24) (x := .tmp 4) (g := gb737) ?hlo_ ?hx_ Try.underlying24 ?hd_ ?hi_ s0 s1 s2 s3 s4 s5 s6 s7 s8 s9 s10; (case hlo_ => rfl); (case hx_ => rfl); (case hd_ => rfl); (case hi_ => kernel_rfl)) | (refine load_cells_24 (ty := 44) (x := .tmp 5) (g := gb738) ?hlo_ ?hx_ Try.underlying44 ?hd_ ?hi_ s11 s12 s13 s14 s15 s16 s17 s18 s19 s20 s21 s22 s23 s24 s25 s26 s27 s28 s29 s30 s31 s32 s33 s34; (case hlo_ => rfl); (case hx_ => rfl); (case hd_ => rfl); (case hi_ => kernel_rfl)) | (refine load_cells_6 (ty := 76) (x := .tmp 7) (g := gb739) ?hlo_ ?hx_ Try.underlying76 ?hd_ ?hi_ s35 s36 s37 s38 s39 s40; (case hlo_ => rfl); (case hx_ => rfl); (case hd_ => rfl); (case hi_ => kernel_rfl)) | (refine load_cells_6 (ty := 76) (x := .tmp 9) (g := gb749) ?hlo_ ?hx_ Try.underlying76 ?hd_ ?hi_ s41 s42 s43 s44 s45 s46; (case hlo_ => rfl); (case hx_ => rfl); (case hd_ => rfl); (case hi_ => kernel_rfl)) | (refine load_cells_6 (ty := 76) (x := .tmp 12) (g := gb758) ?hlo_ ?hx_ Try.underlying76 ?hd_ ?hi_ s47 s48 s49 s50 s51 s52; (case hlo_ => rfl); (case hx_ => rfl); (case hd_ => rfl); (case hi_ => kernel_rfl)) | (go_simp; with_reducible rfl))
      rotate_left
      ·simp only [Act.put, List.setIfInBounds_toArray, List.set_cons_zero, List.set_cons_succ, i64_w, i32_w]
       rfl
      refine take_ (i := 8) (N := some 46) (v := ?_) (a' := ?_) #[true, true, true, true, false, true, true, true, true, false, false, false, false, false, false, false, false, false, false, false, false, false, false, false, false, false, false, false, false, false] rfl rfl (take_ofW HT_.out HW_.out (by kernel_rfl)) (fun _ _ _ h => h) (Or.inl ⟨by rfl, ?_⟩) hHeld ?_ ?_
      rotate_left
      ·rintro w' ⟨s0, s1, s2, s3, s4, s5, s6, s7, s8, s9, s10, s11, s12, s13, s14, s15, s16, s17, s18, s19, s20, s21, s22, s23, s24, s25, s26, s27, s28, s29, s30, s31, s32, s33, s34, s35, s36, s37, s38, s39, s40, s41, s42, s43, s44, s45, s46, s47, s48, s49, s50, s51, s52⟩
       (first | (refine load_cells_11 (ty := 24) (x := .tmp 4) (g := gb737) ?hlo_ ?hx_ Try.underlying24 ?hd_ ?hi_ s0 s1 s2 s3 s4 s5 s6 s7 s8 s9 s10; (case hlo_ => rfl); (case hx_ => rfl); (case hd_ => rfl); (case hi_ => kernel_rfl)) | (refine load_cells_24 (ty := 44) (x := .tmp 5) (g := gb738) ?hlo_ ?hx_ Try.underlying44 ?hd_ ?hi_ s11 s12 s13 s14 s15 s16 s17 s18 s19 s20 s21 s22 s23 s24 s25 s26 s27 s28 s29 s30 s31 s32 s33 s34; (case hlo_ => rfl); (case hx_ => rfl); (case hd_ => rfl); (case hi_ => kernel_rfl)) | (refine load_cells_6 (ty := 76) (x := .tmp 7) (g := gb739) ?hlo_ ?hx_ Try.underlying76 ?hd_ ?hi_ s35 s36 s37 s38 s39 s40; (case hlo_ => rfl); (case hx_ => rfl); (case hd_ => rfl); (case hi_ => kernel_rfl)) | (refine load_cells_6 (ty := 76) (x := .tmp 9) (g := gb749) ?hlo_ ?hx_ Try.underlying76 ?hd_ ?hi_ s41 s42 s43 s44 s45 s46; (case hlo_ => rfl); (case hx_ => rfl); (case hd_ => rfl); (case hi_ => kernel_rfl)) | (refine load_cells_6 (ty := 76) (x := .tmp 12) (g := gb758) ?hlo_ ?hx_ Try.underlying76 ?hd_ ?hi_ s47 s48 s49 s50 s51 s52; (case hlo_ => rfl); (case hx_ => rfl); (case hd_ => rfl); (case hi_ => kernel_rfl)) | (go_simp; with_reducible rfl))
      rotate_left
      ·simp only [Act.put, List.setIfInBounds_toArray, List.set_cons_zero, List.set_cons_succ, i64_w, i32_w]
       rfl
      refine one_ (i := 4) (N := some 42) #[true, true, true, true, true, true, true, true, true, false, false, false, false, false, false, false, false, false, false, false, false, false, false, false, false, false, false, false, false, false] rfl rfl (one_of HT_.out (by kernel_rfl)) (by decide) (fun K hK => ?_)
      refine goes_ Try.func68 (by kernel_rfl) rfl #[.agg #[.int .i64 a0_0, .int .i64 a0_1, .int .i64 a0_2, .int .i64 a0_3, .int .i64 a0_4, .int .i64 a0_5, .int .i64 a0_6, .int .i64 a0_7, .int .i64 a0_8, .int .i64 a0_9, .slice A0_10 l0_10.length c0_10], .agg #[.int .i64 a1_0, .int .i64 a1_1, .int .i64 a1_2, .string a1_3, .int .i64 a1_4, .string a1_5, .string a1_6, .int .i64 a1_7, .int .i64 a1_8, .string a1_9, .string a1_10, .string a1_11, .string a1_12, .string a1_13, .string a1_14, .slice A1_15 l1_15.length c1_15, .slice A1_16 l1_16.length c1_16, .slice A1_17 l1_17.length c1_17, .int .i64 a1_18, .int .i64 a1_19, .int .i64 a1_20, .int .i64 a1_21, .int .i64 a1_22, .int .i64 a1_23], .int .i64 a2, .agg #[.string a3_0, .int .i64 a3_1, .string a3_2, .int .i64 a3_3, .int .i64 a3_4, .string a3_5]] (by rfl) rfl rfl (by (try simp only [List.map_toArray, List.map_cons, List.map_nil]); first | done | rfl | (simp only [List.length_drop, List.length_take]; rfl)) ?_
      with_reducible refine (gate_Guard.calls k a0_0 a0_1 a0_2 a0_3 a0_4 a0_5 a0_6 a0_7 a0_8 a0_9 _ _ l0_10 a1_0 a1_1 a1_2 a1_3 a1_4 a1_5 a1_6 a1_7 a1_8 a1_9 a1_10 a1_11 a1_12 a1_13 a1_14 _ _ l1_15 _ _ l1_16 _ _ l1_17 a1_18 a1_19 a1_20 a1_21 a1_22 a1_23 a2 a3_0 a3_1 a3_2 a3_3 a3_4 a3_5 t759 t760 t761 t762 t763 t764 _ ?side1 ?side2 ?side3 ?side4 ?side5 ?side6 ?side7 ?side8 A16.out).mono ?_
      (case side1 => exact (Kd.C_below HR0_10.out HB.out))
      (case side2 => exact HC0_10.out)
      (case side3 => exact (Kd.C_below HR1_15.out HB.out))
      (case side4 => exact HC1_15.out)
      (case side5 => exact (Kd.C_below HR1_16.out HB.out))
      (case side6 => exact HC1_16.out)
      (case side7 => exact (Kd.C_below HR1_17.out HB.out))
      (case side8 => exact HC1_17.out)
      rintro e w45 ⟨rfl, hb⟩
      refine ⟨_, rfl, ?_⟩
      have n0_ := Aside0.mk (blk_below BK737.out hb)
      have n1_ := Aside0.mk (blk_below BK738.out hb)
      have n2_ := Aside0.mk (blk_below BK739.out hb)
      have n3_ := Aside0.mk (blk_below BK749.out hb)
      have n4_ := Aside0.mk (blk_below BK758.out hb)
      have n5_ := Aside0.mk (below_step HB.out hb)
      clear BK737
      clear BK738
      clear BK739
      clear BK749
      clear BK758
      clear HB
      have BK737 := n0_
      have BK738 := n1_
      have BK739 := n2_
      have BK749 := n3_
      have BK758 := n4_
      have HB := n5_
      clear n0_ n1_ n2_ n3_ n4_ n5_
      (try clear hb)
      (try clear hb2)
      (try clear hk)
      (try clear hi)
      refine hK.out _ _ (and_11 BK737.out (and_24 BK738.out (and_6 BK739.out (and_6 BK749.out (cells_6 BK758.out))))) (fun hHeld => ?_)
      clear hK K
      refine norm_ (a' := ?_) ?_ ?_
      rotate_left
      ·show Act.put _ (some 42) _ = _
       simp only [Act.put, List.setIfInBounds_toArray, List.set_cons_zero, List.set_cons_succ, i64_w, i32_w]
       rfl
      refine one_ (i := 9) (N := some 47) #[true, true, true, true, true, true, true, true, true, true, false, false, false, false, false, false, false, false, false, false, false, false, false, false, false, false, false, false, false, false] rfl rfl (one_of HT_.out (by kernel_rfl)) (by decide) (fun K hK => ?_)
      refine goes_ Try.func69 (by kernel_rfl) rfl #[.agg #[.int .i64 a0_0, .int .i64 a0_1, .int .i64 a0_2, .int .i64 a0_3, .int .i64 a0_4, .int .i64 a0_5, .int .i64 a0_6, .int .i64 a0_7, .int .i64 a0_8, .int .i64 a0_9, .slice A0_10 l0_10.length c0_10], .agg #[.int .i64 a1_0, .int .i64 a1_1, .int .i64 a1_2, .string a1_3, .int .i64 a1_4, .string a1_5, .string a1_6, .int .i64 a1_7, .int .i64 a1_8, .string a1_9, .string a1_10, .string a1_11, .string a1_12, .string a1_13, .string a1_14, .slice A1_15 l1_15.length c1_15, .slice A1_16 l1_16.length c1_16, .slice A1_17 l1_17.length c1_17, .int .i64 a1_18, .int .i64 a1_19, .int .i64 a1_20, .int .i64 a1_21, .int .i64 a1_22, .int .i64 a1_23], .int .i64 a2, .agg #[.string a3_0, .int .i64 a3_1, .string a3_2, .int .i64 a3_3, .int .i64 a3_4, .string a3_5]] (by rfl) rfl rfl (by (try simp only [List.map_toArray, List.map_cons, List.map_nil]); first | done | rfl | (simp only [List.length_drop, List.length_take]; rfl)) ?_
      with_reducible refine (bellwetherref23_Guard.calls k a0_0 a0_1 a0_2 a0_3 a0_4 a0_5 a0_6 a0_7 a0_8 a0_9 _ _ l0_10 a1_0 a1_1 a1_2 a1_3 a1_4 a1_5 a1_6 a1_7 a1_8 a1_9 a1_10 a1_11 a1_12 a1_13 a1_14 _ _ l1_15 _ _ l1_16 _ _ l1_17 a1_18 a1_19 a1_20 a1_21 a1_22 a1_23 a2 a3_0 a3_1 a3_2 a3_3 a3_4 a3_5 t765 t766 t767 t768 t769 t770 _ ?side1 ?side2 ?side3 ?side4 ?side5 ?side6 ?side7 ?side8 A17.out).mono ?_
      (case side1 => exact (Kd.C_below HR0_10.out HB.out))
      (case side2 => exact HC0_10.out)
      (case side3 => exact (Kd.C_below HR1_15.out HB.out))
      (case side4 => exact HC1_15.out)
      (case side5 => exact (Kd.C_below HR1_16.out HB.out))
      (case side6 => exact HC1_16.out)
      (case side7 => exact (Kd.C_below HR1_17.out HB.out))
      (case side8 => exact HC1_17.out)
      rintro e w46 ⟨rfl, hb⟩
      refine ⟨_, rfl, ?_⟩
      have n0_ := Aside0.mk (blk_below BK737.out hb)
      have n1_ := Aside0.mk (blk_below BK738.out hb)
      have n2_ := Aside0.mk (blk_below BK739.out hb)
      have n3_ := Aside0.mk (blk_below BK749.out hb)
      have n4_ := Aside0.mk (blk_below BK758.out hb)
      have n5_ := Aside0.mk (below_step HB.out hb)
      clear BK737
      clear BK738
      clear BK739
      clear BK749
      clear BK758
      clear HB
      have BK737 := n0_
      have BK738 := n1_
      have BK739 := n2_
      have BK749 := n3_
      have BK758 := n4_
      have HB := n5_
      clear n0_ n1_ n2_ n3_ n4_ n5_
      (try clear hb)
      (try clear hb2)
      (try clear hk)
      (try clear hi)
      refine hK.out _ _ (and_11 BK737.out (and_24 BK738.out (and_6 BK739.out (and_6 BK749.out (cells_6 BK758.out))))) (fun hHeld => ?_)
      clear hK K
      refine norm_ (a' := ?_) ?_ ?_
      rotate_left
      ·show Act.put _ (some 47) _ = _
       simp only [Act.put, List.setIfInBounds_toArray, List.set_cons_zero, List.set_cons_succ, i64_w, i32_w]
       rfl
      refine pure_ (i := 10) (N := some 48) (v := ?_) (a' := ?_) #[true, true, true, true, true, true, true, true, true, true, true, false, false, false, false, false, false, false, false, false, false, false, false, false, false, false, false, false, false, false] rfl rfl (any_of HT_.out (by kernel_rfl)) (fun _ _ _ h => h) (Or.inl ⟨by rfl, ?_⟩) ?_ ?_
      rotate_left
      ·intro w'
       go_simp
       with_reducible rfl
      rotate_left
      ·simp only [Act.put, List.setIfInBounds_toArray, List.set_cons_zero, List.set_cons_succ, i64_w, i32_w]
       rfl
      refine pure_ (i := 11) (N := some 49) (v := ?_) (a' := ?_) #[true, true, true, true, true, true, true, true, true, true, true, true, false, false, false, false, false, false, false, false, false, false, false, false, false, false, false, false, false, false] rfl rfl (any_of HT_.out (by kernel_rfl)) (fun _ _ _ h => h) (Or.inl ⟨by rfl, ?_⟩) ?_ ?_
      rotate_left
      ·intro w'
       go_simp
       with_reducible rfl
      rotate_left
      ·simp only [Act.put, List.setIfInBounds_toArray, List.set_cons_zero, List.set_cons_succ, i64_w, i32_w]
       rfl
      refine take_ (i := 12) (N := some 50) (v := ?_) (a' := ?_) #[true, true, true, true, true, true, true, true, true, true, true, true, true, false, false, false, false, false, false, false, false, false, false, false, false, false, false, false, false, false] rfl rfl (take_ofW HT_.out HW_.out (by kernel_rfl)) (fun _ _ _ h => h) (Or.inl ⟨by rfl, ?_⟩) hHeld ?_ ?_
      rotate_left
      ·rintro w' ⟨s0, s1, s2, s3, s4, s5, s6, s7, s8, s9, s10, s11, s12, s13, s14, s15, s16, s17, s18, s19, s20, s21, s22, s23, s24, s25, s26, s27, s28, s29, s30, s31, s32, s33, s34, s35, s36, s37, s38, s39, s40, s41, s42, s43, s44, s45, s46, s47, s48, s49, s50, s51, s52⟩
       (first | (refine load_cells_11 (ty := 24) (x := .tmp 4) (g := gb737) ?hlo_ ?hx_ Try.underlying24 ?hd_ ?hi_ s0 s1 s2 s3 s4 s5 s6 s7 s8 s9 s10; (case hlo_ => rfl); (case hx_ => rfl); (case hd_ => rfl); (case hi_ => kernel_rfl)) | (refine load_cells_24 (ty := 44) (x := .tmp 5) (g := gb738) ?hlo_ ?hx_ Try.underlying44 ?hd_ ?hi_ s11 s12 s13 s14 s15 s16 s17 s18 s19 s20 s21 s22 s23 s24 s25 s26 s27 s28 s29 s30 s31 s32 s33 s34; (case hlo_ => rfl); (case hx_ => rfl); (case hd_ => rfl); (case hi_ => kernel_rfl)) | (refine load_cells_6 (ty := 76) (x := .tmp 7) (g := gb739) ?hlo_ ?hx_ Try.underlying76 ?hd_ ?hi_ s35 s36 s37 s38 s39 s40; (case hlo_ => rfl); (case hx_ => rfl); (case hd_ => rfl); (case hi_ => kernel_rfl)) | (refine load_cells_6 (ty := 76) (x := .tmp 9) (g := gb749) ?hlo_ ?hx_ Try.underlying76 ?hd_ ?hi_ s41 s42 s43 s44 s45 s46; (case hlo_ => rfl); (case hx_ => rfl); (case hd_ => rfl); (case hi_ => kernel_rfl)) | (refine load_cells_6 (ty := 76) (x := .tmp 12) (g := gb758) ?hlo_ ?hx_ Try.underlying76 ?hd_ ?hi_ s47 s48 s49 s50 s51 s52; (case hlo_ => rfl); (case hx_ => rfl); (case hd_ => rfl); (case hi_ => kernel_rfl)) | (go_simp; with_reducible rfl))
      rotate_left
      ·simp only [Act.put, List.setIfInBounds_toArray, List.set_cons_zero, List.set_cons_succ, i64_w, i32_w]
       rfl
      refine take_ (i := 13) (N := some 51) (v := ?_) (a' := ?_) #[true, true, true, true, true, true, true, true, true, true, true, true, true, true, false, false, false, false, false, false, false, false, false, false, false, false, false, false, false, false] rfl rfl (take_ofW HT_.out HW_.out (by kernel_rfl)) (fun _ _ _ h => h) (Or.inl ⟨by rfl, ?_⟩) hHeld ?_ ?_
      rotate_left
      ·rintro w' ⟨s0, s1, s2, s3, s4, s5, s6, s7, s8, s9, s10, s11, s12, s13, s14, s15, s16, s17, s18, s19, s20, s21, s22, s23, s24, s25, s26, s27, s28, s29, s30, s31, s32, s33, s34, s35, s36, s37, s38, s39, s40, s41, s42, s43, s44, s45, s46, s47, s48, s49, s50, s51, s52⟩
       (first | (refine load_cells_11 (ty := 24) (x := .tmp 4) (g := gb737) ?hlo_ ?hx_ Try.underlying24 ?hd_ ?hi_ s0 s1 s2 s3 s4 s5 s6 s7 s8 s9 s10; (case hlo_ => rfl); (case hx_ => rfl); (case hd_ => rfl); (case hi_ => kernel_rfl)) | (refine load_cells_24 (ty := 44) (x := .tmp 5) (g := gb738) ?hlo_ ?hx_ Try.underlying44 ?hd_ ?hi_ s11 s12 s13 s14 s15 s16 s17 s18 s19 s20 s21 s22 s23 s24 s25 s26 s27 s28 s29 s30 s31 s32 s33 s34; (case hlo_ => rfl); (case hx_ => rfl); (case hd_ => rfl); (case hi_ => kernel_rfl)) | (refine load_cells_6 (ty := 76) (x := .tmp 7) (g := gb739) ?hlo_ ?hx_ Try.underlying76 ?hd_ ?hi_ s35 s36 s37 s38 s39 s40; (case hlo_ => rfl); (case hx_ => rfl); (case hd_ => rfl); (case hi_ => kernel_rfl)) | (refine load_cells_6 (ty := 76) (x := .tmp 9) (g := gb749) ?hlo_ ?hx_ Try.underlying76 ?hd_ ?hi_ s41 s42 s43 s44 s45 s46; (case hlo_ => rfl); (case hx_ => rfl); (case hd_ => rfl); (case hi_ => kernel_rfl)) | (refine load_cells_6 (ty := 76) (x := .tmp 12) (g := gb758) ?hlo_ ?hx_ Try.underlying76 ?hd_ ?hi_ s47 s48 s49 s50 s51 s52; (case hlo_ => rfl); (case hx_ => rfl); (case hd_ => rfl); (case hi_ => kernel_rfl)) | (go_simp; with_reducible rfl))
      rotate_left
      ·simp only [Act.put, List.setIfInBounds_toArray, List.set_cons_zero, List.set_cons_succ, i64_w, i32_w]
       rfl
      refine pure_ (i := 14) (N := some 52) (v := ?_) (a' := ?_) #[true, true, true, true, true, true, true, true, true, true, true, true, true, true, true, false, false, false, false, false, false, false, false, false, false, false, false, false, false, false] rfl rfl (any_of HT_.out (by kernel_rfl)) (fun _ _ _ h => h) (Or.inl ⟨by rfl, ?_⟩) ?_ ?_
      rotate_left
      ·intro w'
       go_simp
       with_reducible rfl
      rotate_left
      ·simp only [Act.put, List.setIfInBounds_toArray, List.set_cons_zero, List.set_cons_succ, i64_w, i32_w]
       rfl
      refine pure_ (i := 15) (N := some 53) (v := ?_) (a' := ?_) #[true, true, true, true, true, true, true, true, true, true, true, true, true, true, true, true, false, false, false, false, false, false, false, false, false, false, false, false, false, false] rfl rfl (any_of HT_.out (by kernel_rfl)) (fun _ _ _ h => h) (Or.inl ⟨by rfl, ?_⟩) ?_ ?_
      rotate_left
      ·intro w'
       go_simp
       with_reducible rfl
      rotate_left
      ·simp only [Act.put, List.setIfInBounds_toArray, List.set_cons_zero, List.set_cons_succ, i64_w, i32_w]
       rfl
      refine pure_ (i := 16) (N := some 54) (v := ?_) (a' := ?_) #[true, true, true, true, true, true, true, true, true, true, true, true, true, true, true, true, true, false, false, false, false, false, false, false, false, false, false, false, false, false] rfl rfl (any_of HT_.out (by kernel_rfl)) (fun _ _ _ h => h) (Or.inl ⟨by rfl, ?_⟩) ?_ ?_
      rotate_left
      ·intro w'
       go_simp
       with_reducible rfl
      rotate_left
      ·simp only [Act.put, List.setIfInBounds_toArray, List.set_cons_zero, List.set_cons_succ, i64_w, i32_w]
       rfl
      refine pure_ (i := 17) (N := some 55) (v := ?_) (a' := ?_) #[true, true, true, true, true, true, true, true, true, true, true, true, true, true, true, true, true, true, false, false, false, false, false, false, false, false, false, false, false, false] rfl rfl (any_of HT_.out (by kernel_rfl)) (fun _ _ _ h => h) (Or.inl ⟨by rfl, ?_⟩) ?_ ?_
      rotate_left
      ·intro w'
       go_simp
       with_reducible rfl
      rotate_left
      ·simp only [Act.put, List.setIfInBounds_toArray, List.set_cons_zero, List.set_cons_succ, i64_w, i32_w]
       rfl
      refine pure_ (i := 18) (N := some 56) (v := ?_) (a' := ?_) #[true, true, true, true, true, true, true, true, true, true, true, true, true, true, true, true, true, true, true, false, false, false, false, false, false, false, false, false, false, false] rfl rfl (any_of HT_.out (by kernel_rfl)) (fun _ _ _ h => h) (Or.inl ⟨by rfl, ?_⟩) ?_ ?_
      rotate_left
      ·intro w'
       go_simp
       with_reducible rfl
      rotate_left
      ·simp only [Act.put, List.setIfInBounds_toArray, List.set_cons_zero, List.set_cons_succ, i64_w, i32_w]
       rfl
      refine pure_ (i := 19) (N := some 57) (v := ?_) (a' := ?_) #[true, true, true, true, true, true, true, true, true, true, true, true, true, true, true, true, true, true, true, true, false, false, false, false, false, false, false, false, false, false] rfl rfl (any_of HT_.out (by kernel_rfl)) (fun _ _ _ h => h) (Or.inl ⟨by rfl, ?_⟩) ?_ ?_
      rotate_left
      ·intro w'
       go_simp
       with_reducible rfl
      rotate_left
      ·simp only [Act.put, List.setIfInBounds_toArray, List.set_cons_zero, List.set_cons_succ, i64_w, i32_w]
       rfl
      refine pure_ (i := 20) (N := some 58) (v := ?_) (a' := ?_) #[true, true, true, true, true, true, true, true, true, true, true, true, true, true, true, true, true, true, true, true, true, false, false, false, false, false, false, false, false, false] rfl rfl (any_of HT_.out (by kernel_rfl)) (fun _ _ _ h => h) (Or.inl ⟨by rfl, ?_⟩) ?_ ?_
      rotate_left
      ·intro w'
       go_simp
       with_reducible rfl
      rotate_left
      ·simp only [Act.put, List.setIfInBounds_toArray, List.set_cons_zero, List.set_cons_succ, i64_w, i32_w]
       rfl
      refine pure_ (i := 21) (N := some 59) (v := ?_) (a' := ?_) #[true, true, true, true, true, true, true, true, true, true, true, true, true, true, true, true, true, true, true, true, true, true, false, false, false, false, false, false, false, false] rfl rfl (any_of HT_.out (by kernel_rfl)) (fun _ _ _ h => h) (Or.inl ⟨by rfl, ?_⟩) ?_ ?_
      rotate_left
      ·intro w'
       go_simp
       with_reducible rfl
      rotate_left
      ·simp only [Act.put, List.setIfInBounds_toArray, List.set_cons_zero, List.set_cons_succ, i64_w, i32_w]
       rfl
      refine pure_ (i := 22) (N := some 60) (v := ?_) (a' := ?_) #[true, true, true, true, true, true, true, true, true, true, true, true, true, true, true, true, true, true, true, true, true, true, true, false, false, false, false, false, false, false] rfl rfl (any_of HT_.out (by kernel_rfl)) (fun _ _ _ h => h) (Or.inl ⟨by rfl, ?_⟩) ?_ ?_
      rotate_left
      ·intro w'
       go_simp
       with_reducible rfl
      rotate_left
      ·simp only [Act.put, List.setIfInBounds_toArray, List.set_cons_zero, List.set_cons_succ, i64_w, i32_w]
       rfl
      refine pure_ (i := 23) (N := some 61) (v := ?_) (a' := ?_) #[true, true, true, true, true, true, true, true, true, true, true, true, true, true, true, true, true, true, true, true, true, true, true, true, false, false, false, false, false, false] rfl rfl (any_of HT_.out (by kernel_rfl)) (fun _ _ _ h => h) (Or.inl ⟨by rfl, ?_⟩) ?_ ?_
      rotate_left
      ·intro w'
       go_simp
       with_reducible rfl
      rotate_left
      ·simp only [Act.put, List.setIfInBounds_toArray, List.set_cons_zero, List.set_cons_succ, i64_w, i32_w]
       rfl
      refine pure_ (i := 24) (N := some 62) (v := ?_) (a' := ?_) #[true, true, true, true, true, true, true, true, true, true, true, true, true, true, true, true, true, true, true, true, true, true, true, true, true, false, false, false, false, false] rfl rfl (any_of HT_.out (by kernel_rfl)) (fun _ _ _ h => h) (Or.inl ⟨by rfl, ?_⟩) ?_ ?_
      rotate_left
      ·intro w'
       go_simp
       with_reducible rfl
      rotate_left
      ·simp only [Act.put, List.setIfInBounds_toArray, List.set_cons_zero, List.set_cons_succ, i64_w, i32_w]
       rfl
      refine pure_ (i := 25) (N := some 63) (v := ?_) (a' := ?_) #[true, true, true, true, true, true, true, true, true, true, true, true, true, true, true, true, true, true, true, true, true, true, true, true, true, true, false, false, false, false] rfl rfl (any_of HT_.out (by kernel_rfl)) (fun _ _ _ h => h) (Or.inl ⟨by rfl, ?_⟩) ?_ ?_
      rotate_left
      ·intro w'
       go_simp
       with_reducible rfl
      rotate_left
      ·simp only [Act.put, List.setIfInBounds_toArray, List.set_cons_zero, List.set_cons_succ, i64_w, i32_w]
       rfl
      refine pure_ (i := 26) (N := some 64) (v := ?_) (a' := ?_) #[true, true, true, true, true, true, true, true, true, true, true, true, true, true, true, true, true, true, true, true, true, true, true, true, true, true, true, false, false, false] rfl rfl (any_of HT_.out (by kernel_rfl)) (fun _ _ _ h => h) (Or.inl ⟨by rfl, ?_⟩) ?_ ?_
      rotate_left
      ·intro w'
       go_simp
       with_reducible rfl
      rotate_left
      ·simp only [Act.put, List.setIfInBounds_toArray, List.set_cons_zero, List.set_cons_succ, i64_w, i32_w]
       rfl
      refine one_ (i := 27) (N := some 65) #[true, true, true, true, true, true, true, true, true, true, true, true, true, true, true, true, true, true, true, true, true, true, true, true, true, true, true, true, false, false] rfl rfl (one_of HT_.out (by kernel_rfl)) (by decide) (fun K hK => ?_)
      refine goes_ Try.func46 (by kernel_rfl) rfl #[] (by rfl) rfl rfl (by (try simp only [List.map_toArray, List.map_cons, List.map_nil]); first | done | rfl | (simp only [List.length_drop, List.length_take]; rfl)) ?_
      with_reducible refine (bellwetherlaw23_known.calls k  t771 _ A22.out).mono ?_
      rintro e w47 ⟨rfl, hb⟩
      refine ⟨_, rfl, ?_⟩
      have n0_ := Aside0.mk (blk_below BK737.out hb)
      have n1_ := Aside0.mk (blk_below BK738.out hb)
      have n2_ := Aside0.mk (blk_below BK739.out hb)
      have n3_ := Aside0.mk (blk_below BK749.out hb)
      have n4_ := Aside0.mk (blk_below BK758.out hb)
      have n5_ := Aside0.mk (below_step HB.out hb)
      clear BK737
      clear BK738
      clear BK739
      clear BK749
      clear BK758
      clear HB
      have BK737 := n0_
      have BK738 := n1_
      have BK739 := n2_
      have BK749 := n3_
      have BK758 := n4_
      have HB := n5_
      clear n0_ n1_ n2_ n3_ n4_ n5_
      (try clear hb)
      (try clear hb2)
      (try clear hk)
      (try clear hi)
      refine hK.out _ _ (and_11 BK737.out (and_24 BK738.out (and_6 BK739.out (and_6 BK749.out (cells_6 BK758.out))))) (fun hHeld => ?_)
      clear hK K
      refine norm_ (a' := ?_) ?_ ?_
      rotate_left
      ·show Act.put _ (some 65) _ = _
       simp only [Act.put, List.setIfInBounds_toArray, List.set_cons_zero, List.set_cons_succ, i64_w, i32_w]
       rfl
      refine pure_ (i := 28) (N := some 66) (v := ?_) (a' := ?_) #[true, true, true, true, true, true, true, true, true, true, true, true, true, true, true, true, true, true, true, true, true, true, true, true, true, true, true, true, true, false] rfl rfl (any_of HT_.out (by kernel_rfl)) (fun _ _ _ h => h) (Or.inl ⟨by rfl, ?_⟩) ?_ ?_
      rotate_left
      ·intro w'
       go_simp
       with_reducible rfl
      rotate_left
      ·simp only [Act.put, List.setIfInBounds_toArray, List.set_cons_zero, List.set_cons_succ, i64_w, i32_w]
       rfl
      refine pure_ (i := 29) (N := some 8) (v := ?_) (a' := ?_) #[true, true, true, true, true, true, true, true, true, true, true, true, true, true, true, true, true, true, true, true, true, true, true, true, true, true, true, true, true, true] rfl rfl (any_of HT_.out (by kernel_rfl)) (fun _ _ _ h => h) (Or.inl ⟨by rfl, ?_⟩) ?_ ?_
      rotate_left
      ·intro w'
       go_simp
       with_reducible rfl
      rotate_left
      ·simp only [Act.put, List.setIfInBounds_toArray, List.set_cons_zero, List.set_cons_succ, i64_w, i32_w]
       rfl
      refine done_ (done_of HT_.out (by kernel_rfl)) ?_
      try go_wp2
      go_ret
      exact ⟨by first | rfl | (simp [errW_none, errW_some] <;> rfl) | (simp [*, errW_none, errW_some] <;> rfl), by repeat (first | (with_reducible first | exact HB.out | apply below_alloc | apply pw_below_drewN | apply below_drew1 | refine below_set ?_ GE737.out | refine below_set ?_ GE738.out | refine below_set ?_ GE739.out | refine below_set ?_ GE749.out | refine below_set ?_ GE758.out) | exact HB.out)⟩
     ·rw [if_neg c21] at H
      have c21b0 : (t748 == t757) = false := beq_eq_false_iff_ne.mpr c21
      have c21b1 : (t748 != t757) = true := bne_iff_ne.mpr c21
      exact absurd H (by simp)
    ·rw [if_neg c20] at H
     have c20b0 : (t747.toList == t756.toList) = false := beq_eq_false_iff_ne.mpr c20
     have c20b1 : (t747.toList != t756.toList) = true := bne_iff_ne.mpr c20
     exact absurd H (by simp)
   ·rw [if_neg c19] at H
    have c19b0 : (t741.toList == t750.toList && (t742 == t751 && (t743.toList == t752.toList && (t744 == t753 && (t745 == t754 && (t746.toList == t755.toList)))))) = false := by simpa using c19
    (try (have c19b1 : decide (t741.toList = t750.toList && (t742 == t751 && (t743.toList == t752.toList && (t744 == t753 && (t745 == t754 && (t746.toList == t755.toList)))))) = false := by simpa using c19))
    (try (have c19b2 : (t741.toList == t750.toList && (t742 == t751 && (t743.toList == t752.toList && (t744 == t753 && (t745 == t754 && (t746.toList == t755.toList)))))) = false := by simpa using c19))
    (try (have c19b3 : ¬ (t741.toList = t750.toList && (t742 == t751 && (t743.toList == t752.toList && (t744 == t753 && (t745 == t754 && (t746.toList == t755.toList)))))) := by simpa using c19))
    clear c19
    exact absurd H (by simp)
  ·rw [if_neg c18] at H
   have c18b0 : (t759.toList == t765.toList && (t760 == t766 && (t761.toList == t767.toList && (t762 == t768 && (t763 == t769 && (t764.toList == t770.toList)))))) = false := by simpa using c18
   (try (have c18b1 : decide (t759.toList = t765.toList && (t760 == t766 && (t761.toList == t767.toList && (t762 == t768 && (t763 == t769 && (t764.toList == t770.toList)))))) = false := by simpa using c18))
   (try (have c18b2 : (t759.toList == t765.toList && (t760 == t766 && (t761.toList == t767.toList && (t762 == t768 && (t763 == t769 && (t764.toList == t770.toList)))))) = false := by simpa using c18))
   (try (have c18b3 : ¬ (t759.toList = t765.toList && (t760 == t766 && (t761.toList == t767.toList && (t762 == t768 && (t763 == t769 && (t764.toList == t770.toList)))))) := by simpa using c18))
   clear c18
   exact absurd H (by simp)
end Go.Proofs.Ytdcknaoamjlaiaa.Gn
