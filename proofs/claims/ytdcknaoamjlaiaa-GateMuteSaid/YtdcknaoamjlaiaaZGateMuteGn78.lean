import Derived.Test.YtdcknaoamjlaiaaZGateMuteGn0
import Derived.Test.YtdcknaoamjlaiaaZGateMuteGn3
import Derived.Test.YtdcknaoamjlaiaaZGateMuteGn21
import Derived.Test.YtdcknaoamjlaiaaZGateMuteGn54
import Derived.Test.YtdcknaoamjlaiaaZGateMuteGn55
import Derived.Test.YtdcknaoamjlaiaaZGateMuteGn75
namespace Go.Proofs.Ytdcknaoamjlaiaa.Gn
open Go.RowKit Go.Proofs.YtdcknaoamjlaiaaW.PrintWords Go.Proofs.YtdcknaoamjlaiaaW.PrintLast Go.Proofs.YtdcknaoamjlaiaaW.PrintMore
attribute [local go_sem] max2_int min2_int max_two min_two max_three min_three max_four min_four   -- for this text's walks alone
set_option linter.unusedVariables false
set_option linter.unusedSimpArgs false
def bellwetherlaw23_GateMute.j0 : Nat → Int → Bool → Int → Int → Int → Int → Int → Int → Int → Int → Int → Int → List Int → Int → Int → Int → ByteArray → Int → ByteArray → ByteArray → Int → Int → ByteArray → ByteArray → ByteArray → ByteArray → ByteArray → ByteArray → List (S140) → List ByteArray → List (S142) → Int → Int → Int → Int → Int → Int → ByteArray → Int → ByteArray → Int → Int → ByteArray → Option (Bool)
 | 0, _, _, _, _, _, _, _, _, _, _, _, _, _, _, _, _, _, _, _, _, _, _, _, _, _, _, _, _, _, _, _, _, _, _, _, _, _, _, _, _, _, _, _ => none
 | k + 1, x2, x21, x773000, x773001, x773002, x773003, x773004, x773005, x773006, x773007, x773008, x773009, x773010, x774000, x774001, x774002, x774003, x774004, x774005, x774006, x774007, x774008, x774009, x774010, x774011, x774012, x774013, x774014, x774015, x774016, x774017, x774018, x774019, x774020, x774021, x774022, x774023, x775000, x775001, x775002, x775003, x775004, x775005 => if x21 = true then ((bellwetherlaw23_known.f k).bind fun t775 => (some t775)) else ((gate_Send.f k x773000 x773001 x773002 x773003 x773004 x773005 x773006 x773007 x773008 x773009 x773010 x774000 x774001 x774002 x774003 x774004 x774005 x774006 x774007 x774008 x774009 x774010 x774011 x774012 x774013 x774014 x774015 x774016 x774017 x774018 x774019 x774020 x774021 x774022 x774023 x2 x775000 x775001 x775002 x775003 x775004 x775005).bind fun bt776 => ((gate_Guard.f k x773000 x773001 x773002 x773003 x773004 x773005 x773006 x773007 x773008 x773009 x773010 x774000 x774001 x774002 x774003 x774004 x774005 x774006 x774007 x774008 x774009 x774010 x774011 x774012 x774013 x774014 x774015 x774016 x774017 x774018 x774019 x774020 x774021 x774022 x774023 x2 x775000 x775001 x775002 x775003 x775004 x775005).bind fun bt785 => ((gate_Sync.f x774000 x774001 x774002 x774003 x774004 x774005 x774006 x774007 x774008 x774009 x774010 x774011 x774012 x774013 x774014 x774015 x774016 x774017 x774018 x774019 x774020 x774021 x774022 x774023).bind fun t792 => (if t792 = true then (none) else (if bt776.2.2.2.1 = 0 then (if bt776.2.2.2.2.2.1.toList = ([] : List UInt8) then (if bt776.1.toList = x775000.toList then (if bt776.2.2.2.2.2.2.1.toList = x774012.toList then (if bt776.2.2.2.2.2.2.2 = 0 then (if bt785.2.2.2.1 = 0 then (if bt785.1.toList = x775000.toList then ((bellwetherlaw23_known.f k).bind fun t793 => (some t793)) else (none)) else (none)) else (none)) else (none)) else (none)) else (none)) else (none))))))
def bellwetherlaw23_GateMute.f (k : Nat) (a0_0 a0_1 a0_2 a0_3 a0_4 a0_5 a0_6 a0_7 a0_8 a0_9 : Int) (l0_10 : List Int) (a1_0 a1_1 a1_2 : Int) (a1_3 : ByteArray) (a1_4 : Int) (a1_5 a1_6 : ByteArray) (a1_7 a1_8 : Int) (a1_9 a1_10 a1_11 a1_12 a1_13 a1_14 : ByteArray) (l1_15 : List (S140)) (l1_16 : List ByteArray) (l1_17 : List (S142)) (a1_18 a1_19 a1_20 a1_21 a1_22 a1_23 a2 : Int) (a3_0 : ByteArray) (a3_1 : Int) (a3_2 : ByteArray) (a3_3 a3_4 : Int) (a3_5 : ByteArray) : Option (Bool) := if (a1_12.size : Int) > 100 then (bellwetherlaw23_GateMute.j0 k a2 true a0_0 a0_1 a0_2 a0_3 a0_4 a0_5 a0_6 a0_7 a0_8 a0_9 l0_10 a1_0 a1_1 a1_2 a1_3 a1_4 a1_5 a1_6 a1_7 a1_8 a1_9 a1_10 a1_11 a1_12 a1_13 a1_14 l1_15 l1_16 l1_17 a1_18 a1_19 a1_20 a1_21 a1_22 a1_23 a3_0 a3_1 a3_2 a3_3 a3_4 a3_5) else (bellwetherlaw23_GateMute.j0 k a2 (decide (a1_8 ≥ 2)) a0_0 a0_1 a0_2 a0_3 a0_4 a0_5 a0_6 a0_7 a0_8 a0_9 l0_10 a1_0 a1_1 a1_2 a1_3 a1_4 a1_5 a1_6 a1_7 a1_8 a1_9 a1_10 a1_11 a1_12 a1_13 a1_14 l1_15 l1_16 l1_17 a1_18 a1_19 a1_20 a1_21 a1_22 a1_23 a3_0 a3_1 a3_2 a3_3 a3_4 a3_5)
set_option maxHeartbeats 8000000 in
set_option maxRecDepth 100000 in
theorem bellwetherlaw23_GateMute.calls (k : Nat) (a0_0 a0_1 a0_2 a0_3 a0_4 a0_5 a0_6 a0_7 a0_8 a0_9 : Int) (A0_10 : Option Addr) (c0_10 : Nat) (l0_10 : List Int) (a1_0 a1_1 a1_2 : Int) (a1_3 : ByteArray) (a1_4 : Int) (a1_5 a1_6 : ByteArray) (a1_7 a1_8 : Int) (a1_9 a1_10 a1_11 a1_12 a1_13 a1_14 : ByteArray) (A1_15 : Option Addr) (c1_15 : Nat) (l1_15 : List (S140)) (A1_16 : Option Addr) (c1_16 : Nat) (l1_16 : List ByteArray) (A1_17 : Option Addr) (c1_17 : Nat) (l1_17 : List (S142)) (a1_18 a1_19 a1_20 a1_21 a1_22 a1_23 a2 : Int) (a3_0 : ByteArray) (a3_1 : Int) (a3_2 : ByteArray) (a3_3 a3_4 : Int) (a3_5 : ByteArray) (r : Bool) (w : World) (hr0_10 : Kd.C (Kd.int .i64) w A0_10 l0_10.length l0_10) (hc0_10 : l0_10.length ≤ c0_10) (hr1_15 : Kd.C k140 w A1_15 l1_15.length l1_15) (hc1_15 : l1_15.length ≤ c1_15) (hr1_16 : Kd.C Kd.string w A1_16 l1_16.length l1_16) (hc1_16 : l1_16.length ≤ c1_16) (hr1_17 : Kd.C k142 w A1_17 l1_17.length l1_17) (hc1_17 : l1_17.length ≤ c1_17) (h : bellwetherlaw23_GateMute.f k a0_0 a0_1 a0_2 a0_3 a0_4 a0_5 a0_6 a0_7 a0_8 a0_9 l0_10 a1_0 a1_1 a1_2 a1_3 a1_4 a1_5 a1_6 a1_7 a1_8 a1_9 a1_10 a1_11 a1_12 a1_13 a1_14 l1_15 l1_16 l1_17 a1_18 a1_19 a1_20 a1_21 a1_22 a1_23 a2 a3_0 a3_1 a3_2 a3_3 a3_4 a3_5 = some r) :
  Calls Try.prog 16 #[.agg #[.int .i64 a0_0, .int .i64 a0_1, .int .i64 a0_2, .int .i64 a0_3, .int .i64 a0_4, .int .i64 a0_5, .int .i64 a0_6, .int .i64 a0_7, .int .i64 a0_8, .int .i64 a0_9, .slice A0_10 l0_10.length c0_10], .agg #[.int .i64 a1_0, .int .i64 a1_1, .int .i64 a1_2, .string a1_3, .int .i64 a1_4, .string a1_5, .string a1_6, .int .i64 a1_7, .int .i64 a1_8, .string a1_9, .string a1_10, .string a1_11, .string a1_12, .string a1_13, .string a1_14, .slice A1_15 l1_15.length c1_15, .slice A1_16 l1_16.length c1_16, .slice A1_17 l1_17.length c1_17, .int .i64 a1_18, .int .i64 a1_19, .int .i64 a1_20, .int .i64 a1_21, .int .i64 a1_22, .int .i64 a1_23], .int .i64 a2, .agg #[.string a3_0, .int .i64 a3_1, .string a3_2, .int .i64 a3_3, .int .i64 a3_4, .string a3_5]] w fun e w' => e = .returned (.bool r) ∧ Below w.heap.size w w' := by
 have HR0_10 := Aside0.mk hr0_10
 have HC0_10 := Aside0.mk hc0_10
 clear hr0_10 hc0_10
 have HR1_15 := Aside0.mk hr1_15
 have HC1_15 := Aside0.mk hc1_15
 clear hr1_15 hc1_15
 have HR1_16 := Aside0.mk hr1_16
 have HC1_16 := Aside0.mk hc1_16
 clear hr1_16 hc1_16
 have HR1_17 := Aside0.mk hr1_17
 have HC1_17 := Aside0.mk hc1_17
 clear hr1_17 hc1_17
 have HB := Aside0.mk (Below.refl w.heap.size w)
 have H : (if (a1_12.size : Int) > 100 then (bellwetherlaw23_GateMute.j0 k a2 true a0_0 a0_1 a0_2 a0_3 a0_4 a0_5 a0_6 a0_7 a0_8 a0_9 l0_10 a1_0 a1_1 a1_2 a1_3 a1_4 a1_5 a1_6 a1_7 a1_8 a1_9 a1_10 a1_11 a1_12 a1_13 a1_14 l1_15 l1_16 l1_17 a1_18 a1_19 a1_20 a1_21 a1_22 a1_23 a3_0 a3_1 a3_2 a3_3 a3_4 a3_5) else (bellwetherlaw23_GateMute.j0 k a2 (decide (a1_8 ≥ 2)) a0_0 a0_1 a0_2 a0_3 a0_4 a0_5 a0_6 a0_7 a0_8 a0_9 l0_10 a1_0 a1_1 a1_2 a1_3 a1_4 a1_5 a1_6 a1_7 a1_8 a1_9 a1_10 a1_11 a1_12 a1_13 a1_14 l1_15 l1_16 l1_17 a1_18 a1_19 a1_20 a1_21 a1_22 a1_23 a3_0 a3_1 a3_2 a3_3 a3_4 a3_5)) = some r := h
 clear h
 have HC5 := Aside0.mk H
 clear H
 go_enter Try.func16, Try.ntmps16
 go_upto_region 1 with (first | ((with_reducible refine gate_load (t := 24) (x := .tmp 4) rfl ?_); refine load_row_g (cs := ?_) ?hw 24 (.tmp 4) ?h2 gb772 ?hx 24 (fr := (0, 0)) (d := ?_) ?hg ?h3 ?h4 ?hi ?_; (case hw => first | (with_reducible rfl) | (go_simp; done) | rfl); (case h2 => rfl); (case hx => first | (with_reducible rfl) | (go_simp; done) | rfl); (case hg => exact BK772.out); (case h3 => exact Try.underlying24); (case h4 => rfl); (case hi => kernel_rfl)) | ((with_reducible refine gate_load (t := 44) (x := .tmp 5) rfl ?_); refine load_row_g (cs := ?_) ?hw 44 (.tmp 5) ?h2 gb773 ?hx 44 (fr := (0, 0)) (d := ?_) ?hg ?h3 ?h4 ?hi ?_; (case hw => first | (with_reducible rfl) | (go_simp; done) | rfl); (case h2 => rfl); (case hx => first | (with_reducible rfl) | (go_simp; done) | rfl); (case hg => exact BK773.out); (case h3 => exact Try.underlying44); (case h4 => rfl); (case hi => kernel_rfl)) | ((with_reducible refine gate_load (t := 76) (x := .tmp 7) rfl ?_); refine load_row_g (cs := ?_) ?hw 76 (.tmp 7) ?h2 gb774 ?hx 76 (fr := (0, 0)) (d := ?_) ?hg ?h3 ?h4 ?hi ?_; (case hw => first | (with_reducible rfl) | (go_simp; done) | rfl); (case h2 => rfl); (case hx => first | (with_reducible rfl) | (go_simp; done) | rfl); (case hg => exact BK774.out); (case h3 => exact Try.underlying76); (case h4 => rfl); (case hi => kernel_rfl)) | ((with_reducible refine gate_load (t := 76) (x := .tmp 9) rfl ?_); refine load_row_g (cs := ?_) ?hw 76 (.tmp 9) ?h2 gb784 ?hx 76 (fr := (0, 0)) (d := ?_) ?hg ?h3 ?h4 ?hi ?_; (case hw => first | (with_reducible rfl) | (go_simp; done) | rfl); (case h2 => rfl); (case hx => first | (with_reducible rfl) | (go_simp; done) | rfl); (case hg => exact BK784.out); (case h3 => exact Try.underlying76); (case h4 => rfl); (case hi => kernel_rfl)) | ((with_reducible refine gate_load (t := 76) (x := .tmp 12) rfl ?_); refine load_row_g (cs := ?_) ?hw 76 (.tmp 12) ?h2 gb791 ?hx 76 (fr := (0, 0)) (d := ?_) ?hg ?h3 ?h4 ?hi ?_; (case hw => first | (with_reducible rfl) | (go_simp; done) | rfl); (case h2 => rfl); (case hx => first | (with_reducible rfl) | (go_simp; done) | rfl); (case hg => exact BK791.out); (case h3 => exact Try.underlying76); (case h4 => rfl); (case hi => kernel_rfl)) | ((with_reducible refine gate_dst (N := 4) rfl ?_); refine box_event ?hg (N := 4) ?hd (cs := #[.int .i64 a0_0, .int .i64 a0_1, .int .i64 a0_2, .int .i64 a0_3, .int .i64 a0_4, .int .i64 a0_5, .int .i64 a0_6, .int .i64 a0_7, .int .i64 a0_8, .int .i64 a0_9, .slice A0_10 l0_10.length c0_10]) (t := 24) ?hr ?_; (case hd => rfl); (case hg => rfl); (case hr => first | (go_simp; done) | (go_simp; rfl)); intro gb772 hg w6 hbox hb; have n0_ := Aside0.mk (below_step HB.out hb); have n1_ := Aside0.mk (hbox); have n2_ := Aside0.mk ((by rw [hg]; exact (below_size HB.out) : w.heap.size ≤ gb772)); have n3_ := Aside0.mk ((by rw [hg]; exact (below_size HB.out) : w.heap.size ≤ gb772)); clear HB; have HB := n0_; have BK772 := n1_; have GW772 := n2_; have GE772 := n3_; clear n0_ n1_ n2_ n3_; clear hb hbox hg) | ((with_reducible refine gate_dst (N := 5) rfl ?_); refine box_event ?hg (N := 5) ?hd (cs := #[.int .i64 a1_0, .int .i64 a1_1, .int .i64 a1_2, .string a1_3, .int .i64 a1_4, .string a1_5, .string a1_6, .int .i64 a1_7, .int .i64 a1_8, .string a1_9, .string a1_10, .string a1_11, .string a1_12, .string a1_13, .string a1_14, .slice A1_15 l1_15.length c1_15, .slice A1_16 l1_16.length c1_16, .slice A1_17 l1_17.length c1_17, .int .i64 a1_18, .int .i64 a1_19, .int .i64 a1_20, .int .i64 a1_21, .int .i64 a1_22, .int .i64 a1_23]) (t := 44) ?hr ?_; (case hd => rfl); (case hg => rfl); (case hr => first | (go_simp; done) | (go_simp; rfl)); intro gb773 hg w7 hbox hb; have n0_ := Aside0.mk (blk_below BK772.out hb); have n1_ := Aside0.mk (below_step HB.out hb); have n2_ := Aside0.mk (hbox); have n3_ := Aside0.mk ((by rw [hg]; exact (below_size HB.out) : w.heap.size ≤ gb773)); have n4_ := Aside0.mk ((by rw [hg]; exact (below_size HB.out) : w.heap.size ≤ gb773)); have n5_ := Aside0.mk ((by rw [hg]; exact Nat.ne_of_lt (blk_lt BK772.out) : gb772 ≠ gb773)); have n6_ := Aside0.mk ((by rw [hg]; exact Nat.ne_of_gt (blk_lt BK772.out) : gb773 ≠ gb772)); clear BK772; clear HB; have BK772 := n0_; have HB := n1_; have BK773 := n2_; have GW773 := n3_; have GE773 := n4_; have NB772_773 := n5_; have NB773_772 := n6_; clear n0_ n1_ n2_ n3_ n4_ n5_ n6_; clear hb hbox hg) | ((with_reducible refine gate_dst (N := 7) rfl ?_); refine box_event ?hg (N := 7) ?hd (cs := #[.string a3_0, .int .i64 a3_1, .string a3_2, .int .i64 a3_3, .int .i64 a3_4, .string a3_5]) (t := 76) ?hr ?_; (case hd => rfl); (case hg => rfl); (case hr => first | (go_simp; done) | (go_simp; rfl)); intro gb774 hg w8 hbox hb; have n0_ := Aside0.mk (blk_below BK772.out hb); have n1_ := Aside0.mk (blk_below BK773.out hb); have n2_ := Aside0.mk (below_step HB.out hb); have n3_ := Aside0.mk (hbox); have n4_ := Aside0.mk ((by rw [hg]; exact (below_size HB.out) : w.heap.size ≤ gb774)); have n5_ := Aside0.mk ((by rw [hg]; exact (below_size HB.out) : w.heap.size ≤ gb774)); have n6_ := Aside0.mk ((by rw [hg]; exact Nat.ne_of_lt (blk_lt BK772.out) : gb772 ≠ gb774)); have n7_ := Aside0.mk ((by rw [hg]; exact Nat.ne_of_gt (blk_lt BK772.out) : gb774 ≠ gb772)); have n8_ := Aside0.mk ((by rw [hg]; exact Nat.ne_of_lt (blk_lt BK773.out) : gb773 ≠ gb774)); have n9_ := Aside0.mk ((by rw [hg]; exact Nat.ne_of_gt (blk_lt BK773.out) : gb774 ≠ gb773)); clear BK772; clear BK773; clear HB; have BK772 := n0_; have BK773 := n1_; have HB := n2_; have BK774 := n3_; have GW774 := n4_; have GE774 := n5_; have NB772_774 := n6_; have NB774_772 := n7_; have NB773_774 := n8_; have NB774_773 := n9_; clear n0_ n1_ n2_ n3_ n4_ n5_ n6_ n7_ n8_ n9_; clear hb hbox hg))
 (try simp only [Act.put, List.setIfInBounds_toArray, List.set_cons_zero, List.set_cons_succ])
 go_cut [21] (fun v21 wc => ∃ (kq : Nat) (x21_4 : Bool), v21 = .bool x21_4 ∧ Aside0 (bellwetherlaw23_GateMute.j0 kq a2 x21_4 a0_0 a0_1 a0_2 a0_3 a0_4 a0_5 a0_6 a0_7 a0_8 a0_9 l0_10 a1_0 a1_1 a1_2 a1_3 a1_4 a1_5 a1_6 a1_7 a1_8 a1_9 a1_10 a1_11 a1_12 a1_13 a1_14 l1_15 l1_16 l1_17 a1_18 a1_19 a1_20 a1_21 a1_22 a1_23 a3_0 a3_1 a3_2 a3_3 a3_4 a3_5 = some r) ∧ Aside0 (kq ≤ k) ∧ Aside0 (wc.heap[gb772]? = some (.cells #[.int .i64 a0_0, .int .i64 a0_1, .int .i64 a0_2, .int .i64 a0_3, .int .i64 a0_4, .int .i64 a0_5, .int .i64 a0_6, .int .i64 a0_7, .int .i64 a0_8, .int .i64 a0_9, (.slice A0_10 l0_10.length c0_10)] 24 (0, 0))) ∧ Aside0 (wc.heap[gb773]? = some (.cells #[.int .i64 a1_0, .int .i64 a1_1, .int .i64 a1_2, .string a1_3, .int .i64 a1_4, .string a1_5, .string a1_6, .int .i64 a1_7, .int .i64 a1_8, .string a1_9, .string a1_10, .string a1_11, .string a1_12, .string a1_13, .string a1_14, (.slice A1_15 l1_15.length c1_15), (.slice A1_16 l1_16.length c1_16), (.slice A1_17 l1_17.length c1_17), .int .i64 a1_18, .int .i64 a1_19, .int .i64 a1_20, .int .i64 a1_21, .int .i64 a1_22, .int .i64 a1_23] 44 (0, 0))) ∧ Aside0 (wc.heap[gb774]? = some (.cells #[.string a3_0, .int .i64 a3_1, .string a3_2, .int .i64 a3_3, .int .i64 a3_4, .string a3_5] 76 (0, 0))) ∧ Aside0 (Below w.heap.size w wc))
 case first =>
  have H := HC5.out
  clear HC5
  by_cases c9 : (a1_12.size : Int) > 100
  ·rw [if_pos c9] at H
   have c9b0 : decide (100 < (a1_12.size : Int)) = true := decide_eq_true c9
   have c9b1 : decide (100 < a1_12.size) = true := decide_eq_true (by omega)
   clear c9
   (first | rw [c9b0] | (simp only [i64_w, i32_w]; rw [c9b0]) | skip)
   have H' := Aside0.mk H
   clear H
   have hnb10 := NB773_772.out
   have hnc10 := NB772_773.out
   have hnb11 := NB773_774.out
   have hnc11 := NB774_773.out
   obtain ⟨hcz12_0, hcz12_1, hcz12_2, hcz12_3, hcz12_4, hcz12_5, hcz12_6, hcz12_7, hcz12_8, hcz12_9, hcz12_10, hcz12_11, hcz12_12, hcz12_13, hcz12_14, hcz12_15, hcz12_16, hcz12_17, hcz12_18, hcz12_19, hcz12_20, hcz12_21, hcz12_22, hcz12_23⟩ := cells_24 BK773.out
   obtain ⟨hfz12_0, hfz12_1, hfz12_2, hfz12_3, hfz12_4, hfz12_5, hfz12_6, hfz12_7, hfz12_8, hfz12_9, hfz12_10, hfz12_11, hfz12_12, hfz12_13, hfz12_14, hfz12_15, hfz12_16, hfz12_17, hfz12_18, hfz12_19, hfz12_20, hfz12_21, hfz12_22, hfz12_23⟩ := frozen_24 BK773.out
   go_wp2
   go_meet
   case rel => exact ⟨_, (true), (by first | rfl | (simp; done) | (simp [*]; done)), H', ⟨by first | omega | exact Nat.le_refl _⟩, ⟨by (with_reducible repeat (first | refine blk_drewN ?_ _ | refine blk_drew ?_ | refine blk_alloc ?_ _)); exact BK772.out⟩, ⟨by (with_reducible repeat (first | refine blk_drewN ?_ _ | refine blk_drew ?_ | refine blk_alloc ?_ _)); exact BK773.out⟩, ⟨by (with_reducible repeat (first | refine blk_drewN ?_ _ | refine blk_drew ?_ | refine blk_alloc ?_ _)); exact BK774.out⟩, ⟨by repeat (first | (with_reducible first | exact HB.out | apply below_alloc | apply pw_below_drewN | apply below_drew1 | refine below_set ?_ GE772.out | refine below_set ?_ GE773.out | refine below_set ?_ GE774.out) | exact HB.out)⟩⟩
  ·rw [if_neg c9] at H
   have c9b0 : decide (100 < (a1_12.size : Int)) = false := decide_eq_false c9
   have c9b1 : decide (100 < a1_12.size) = false := decide_eq_false (by omega)
   clear c9
   (first | rw [c9b0] | (simp only [i64_w, i32_w]; rw [c9b0]) | skip)
   have H' := Aside0.mk H
   clear H
   have hnb13 := NB773_772.out
   have hnc13 := NB772_773.out
   have hnb14 := NB773_774.out
   have hnc14 := NB774_773.out
   obtain ⟨hcz15_0, hcz15_1, hcz15_2, hcz15_3, hcz15_4, hcz15_5, hcz15_6, hcz15_7, hcz15_8, hcz15_9, hcz15_10, hcz15_11, hcz15_12, hcz15_13, hcz15_14, hcz15_15, hcz15_16, hcz15_17, hcz15_18, hcz15_19, hcz15_20, hcz15_21, hcz15_22, hcz15_23⟩ := cells_24 BK773.out
   obtain ⟨hfz15_0, hfz15_1, hfz15_2, hfz15_3, hfz15_4, hfz15_5, hfz15_6, hfz15_7, hfz15_8, hfz15_9, hfz15_10, hfz15_11, hfz15_12, hfz15_13, hfz15_14, hfz15_15, hfz15_16, hfz15_17, hfz15_18, hfz15_19, hfz15_20, hfz15_21, hfz15_22, hfz15_23⟩ := frozen_24 BK773.out
   go_wp2
   go_meet
   case rel => exact ⟨_, (decide (a1_8 ≥ 2)), (by first | rfl | (simp; done) | (simp [*]; done)), H', ⟨by first | omega | exact Nat.le_refl _⟩, ⟨by (with_reducible repeat (first | refine blk_drewN ?_ _ | refine blk_drew ?_ | refine blk_alloc ?_ _)); exact BK772.out⟩, ⟨by (with_reducible repeat (first | refine blk_drewN ?_ _ | refine blk_drew ?_ | refine blk_alloc ?_ _)); exact BK773.out⟩, ⟨by (with_reducible repeat (first | refine blk_drewN ?_ _ | refine blk_drew ?_ | refine blk_alloc ?_ _)); exact BK774.out⟩, ⟨by repeat (first | (with_reducible first | exact HB.out | apply below_alloc | apply pw_below_drewN | apply below_drew1 | refine below_set ?_ GE772.out | refine below_set ?_ GE773.out | refine below_set ?_ GE774.out) | exact HB.out)⟩⟩
 case rest =>
  clear HC5
  try clear c1
  try clear p2
  try clear c9
  try clear c9b0
  try clear c9b1
  try clear c10
  try clear c11
  try clear c13
  try clear c14
  try clear hcz12_0
  try clear hcz12_1
  try clear hcz12_10
  try clear hcz12_11
  try clear hcz12_12
  try clear hcz12_13
  try clear hcz12_14
  try clear hcz12_15
  try clear hcz12_16
  try clear hcz12_17
  try clear hcz12_18
  try clear hcz12_19
  try clear hcz12_2
  try clear hcz12_20
  try clear hcz12_21
  try clear hcz12_22
  try clear hcz12_23
  try clear hcz12_3
  try clear hcz12_4
  try clear hcz12_5
  try clear hcz12_6
  try clear hcz12_7
  try clear hcz12_8
  try clear hcz12_9
  try clear hcz15_0
  try clear hcz15_1
  try clear hcz15_10
  try clear hcz15_11
  try clear hcz15_12
  try clear hcz15_13
  try clear hcz15_14
  try clear hcz15_15
  try clear hcz15_16
  try clear hcz15_17
  try clear hcz15_18
  try clear hcz15_19
  try clear hcz15_2
  try clear hcz15_20
  try clear hcz15_21
  try clear hcz15_22
  try clear hcz15_23
  try clear hcz15_3
  try clear hcz15_4
  try clear hcz15_5
  try clear hcz15_6
  try clear hcz15_7
  try clear hcz15_8
  try clear hcz15_9
  try clear hfz12_0
  try clear hfz12_1
  try clear hfz12_10
  try clear hfz12_11
  try clear hfz12_12
  try clear hfz12_13
  try clear hfz12_14
  try clear hfz12_15
  try clear hfz12_16
  try clear hfz12_17
  try clear hfz12_18
  try clear hfz12_19
  try clear hfz12_2
  try clear hfz12_20
  try clear hfz12_21
  try clear hfz12_22
  try clear hfz12_23
  try clear hfz12_3
  try clear hfz12_4
  try clear hfz12_5
  try clear hfz12_6
  try clear hfz12_7
  try clear hfz12_8
  try clear hfz12_9
  try clear hfz15_0
  try clear hfz15_1
  try clear hfz15_10
  try clear hfz15_11
  try clear hfz15_12
  try clear hfz15_13
  try clear hfz15_14
  try clear hfz15_15
  try clear hfz15_16
  try clear hfz15_17
  try clear hfz15_18
  try clear hfz15_19
  try clear hfz15_2
  try clear hfz15_20
  try clear hfz15_21
  try clear hfz15_22
  try clear hfz15_23
  try clear hfz15_3
  try clear hfz15_4
  try clear hfz15_5
  try clear hfz15_6
  try clear hfz15_7
  try clear hfz15_8
  try clear hfz15_9
  obtain ⟨kq, x21_4, rfl, HA, HJ4, BK772, BK773, BK774, HB⟩ := hcut
  cases kq with
  | zero => exact absurd HA.out (by simp [bellwetherlaw23_GateMute.j0])
  | succ kj4 =>
   have H := HA.out
   clear HA
   simp only [bellwetherlaw23_GateMute.j0] at H
   by_cases c16 : x21_4 = true
   ·subst c16
    have H1 : ((bellwetherlaw23_known.f kj4).bind fun t775 => (some t775)) = some r := by rw [if_pos rfl] at H; exact H
    clear H
    have H := H1
    clear H1
    replace H := Option.bind_eq_some_iff.mp H
    obtain ⟨t775, A170, H⟩ := H
    replace H : (some t775) = some r := H
    have A17 := Aside0.mk A170
    clear A170
    obtain rfl := Option.some.inj H
    go_wp2_with (first | ((with_reducible refine gate_load (t := 24) (x := .tmp 4) rfl ?_); refine load_row_g (cs := ?_) ?hw 24 (.tmp 4) ?h2 gb772 ?hx 24 (fr := (0, 0)) (d := ?_) ?hg ?h3 ?h4 ?hi ?_; (case hw => first | (with_reducible rfl) | (go_simp; done) | rfl); (case h2 => rfl); (case hx => first | (with_reducible rfl) | (go_simp; done) | rfl); (case hg => exact BK772.out); (case h3 => exact Try.underlying24); (case h4 => rfl); (case hi => kernel_rfl)) | ((with_reducible refine gate_load (t := 44) (x := .tmp 5) rfl ?_); refine load_row_g (cs := ?_) ?hw 44 (.tmp 5) ?h2 gb773 ?hx 44 (fr := (0, 0)) (d := ?_) ?hg ?h3 ?h4 ?hi ?_; (case hw => first | (with_reducible rfl) | (go_simp; done) | rfl); (case h2 => rfl); (case hx => first | (with_reducible rfl) | (go_simp; done) | rfl); (case hg => exact BK773.out); (case h3 => exact Try.underlying44); (case h4 => rfl); (case hi => kernel_rfl)) | ((with_reducible refine gate_load (t := 76) (x := .tmp 7) rfl ?_); refine load_row_g (cs := ?_) ?hw 76 (.tmp 7) ?h2 gb774 ?hx 76 (fr := (0, 0)) (d := ?_) ?hg ?h3 ?h4 ?hi ?_; (case hw => first | (with_reducible rfl) | (go_simp; done) | rfl); (case h2 => rfl); (case hx => first | (with_reducible rfl) | (go_simp; done) | rfl); (case hg => exact BK774.out); (case h3 => exact Try.underlying76); (case h4 => rfl); (case hi => kernel_rfl)) | ((with_reducible refine gate_load (t := 76) (x := .tmp 9) rfl ?_); refine load_row_g (cs := ?_) ?hw 76 (.tmp 9) ?h2 gb784 ?hx 76 (fr := (0, 0)) (d := ?_) ?hg ?h3 ?h4 ?hi ?_; (case hw => first | (with_reducible rfl) | (go_simp; done) | rfl); (case h2 => rfl); (case hx => first | (with_reducible rfl) | (go_simp; done) | rfl); (case hg => exact BK784.out); (case h3 => exact Try.underlying76); (case h4 => rfl); (case hi => kernel_rfl)) | ((with_reducible refine gate_load (t := 76) (x := .tmp 12) rfl ?_); refine load_row_g (cs := ?_) ?hw 76 (.tmp 12) ?h2 gb791 ?hx 76 (fr := (0, 0)) (d := ?_) ?hg ?h3 ?h4 ?hi ?_; (case hw => first | (with_reducible rfl) | (go_simp; done) | rfl); (case h2 => rfl); (case hx => first | (with_reducible rfl) | (go_simp; done) | rfl); (case hg => exact BK791.out); (case h3 => exact Try.underlying76); (case h4 => rfl); (case hi => kernel_rfl)) | ((with_reducible refine gate_callee (f := 46) rfl ?_); refine goesL_ (some 22) rfl rfl Try.func46 (by kernel_rfl) rfl #[] rfl (by (try simp only [List.map_toArray, List.map_cons, List.map_nil]); first | done | rfl | (simp only [List.length_drop, List.length_take]; rfl)) ?_; (with_reducible refine (bellwetherlaw23_known.calls kj4  t775 _ A17.out).mono ?_); rintro e w18 ⟨rfl, hb⟩; refine ⟨_, rfl, ?_⟩; have n0_ := Aside0.mk (blk_below BK772.out hb); have n1_ := Aside0.mk (blk_below BK773.out hb); have n2_ := Aside0.mk (blk_below BK774.out hb); have n3_ := Aside0.mk (below_step HB.out hb); clear BK772; clear BK773; clear BK774; clear HB; have BK772 := n0_; have BK773 := n1_; have BK774 := n2_; have HB := n3_; clear n0_ n1_ n2_ n3_; (try clear hb); (try clear hb2); (try clear hk); (try clear hi)))
    go_ret
    exact ⟨by first | rfl | (simp [errW_none, errW_some] <;> rfl) | (simp [*, errW_none, errW_some] <;> rfl), by repeat (first | (with_reducible first | exact HB.out | apply below_alloc | apply pw_below_drewN | apply below_drew1 | refine below_set ?_ GE772.out | refine below_set ?_ GE773.out | refine below_set ?_ GE774.out) | exact HB.out)⟩
   ·replace c16 := Bool.eq_false_iff.mpr c16
    subst c16
    have H1 : ((gate_Send.f kj4 a0_0 a0_1 a0_2 a0_3 a0_4 a0_5 a0_6 a0_7 a0_8 a0_9 l0_10 a1_0 a1_1 a1_2 a1_3 a1_4 a1_5 a1_6 a1_7 a1_8 a1_9 a1_10 a1_11 a1_12 a1_13 a1_14 l1_15 l1_16 l1_17 a1_18 a1_19 a1_20 a1_21 a1_22 a1_23 a2 a3_0 a3_1 a3_2 a3_3 a3_4 a3_5).bind fun bt776 => ((gate_Guard.f kj4 a0_0 a0_1 a0_2 a0_3 a0_4 a0_5 a0_6 a0_7 a0_8 a0_9 l0_10 a1_0 a1_1 a1_2 a1_3 a1_4 a1_5 a1_6 a1_7 a1_8 a1_9 a1_10 a1_11 a1_12 a1_13 a1_14 l1_15 l1_16 l1_17 a1_18 a1_19 a1_20 a1_21 a1_22 a1_23 a2 a3_0 a3_1 a3_2 a3_3 a3_4 a3_5).bind fun bt785 => ((gate_Sync.f a1_0 a1_1 a1_2 a1_3 a1_4 a1_5 a1_6 a1_7 a1_8 a1_9 a1_10 a1_11 a1_12 a1_13 a1_14 l1_15 l1_16 l1_17 a1_18 a1_19 a1_20 a1_21 a1_22 a1_23).bind fun t792 => (if t792 = true then (none) else (if bt776.2.2.2.1 = 0 then (if bt776.2.2.2.2.2.1.toList = ([] : List UInt8) then (if bt776.1.toList = a3_0.toList then (if bt776.2.2.2.2.2.2.1.toList = a1_12.toList then (if bt776.2.2.2.2.2.2.2 = 0 then (if bt785.2.2.2.1 = 0 then (if bt785.1.toList = a3_0.toList then ((bellwetherlaw23_known.f kj4).bind fun t793 => (some t793)) else (none)) else (none)) else (none)) else (none)) else (none)) else (none)) else (none)))))) = some r := by rw [if_neg (show ¬ (false = true) by decide)] at H; exact H
    clear H
    have H := H1
    clear H1
    replace H := Option.bind_eq_some_iff.mp H
    obtain ⟨⟨t776, t777, t778, t779, t780, t781, t782, t783⟩, A190, H⟩ := H
    replace H : ((gate_Guard.f kj4 a0_0 a0_1 a0_2 a0_3 a0_4 a0_5 a0_6 a0_7 a0_8 a0_9 l0_10 a1_0 a1_1 a1_2 a1_3 a1_4 a1_5 a1_6 a1_7 a1_8 a1_9 a1_10 a1_11 a1_12 a1_13 a1_14 l1_15 l1_16 l1_17 a1_18 a1_19 a1_20 a1_21 a1_22 a1_23 a2 a3_0 a3_1 a3_2 a3_3 a3_4 a3_5).bind fun bt785 => ((gate_Sync.f a1_0 a1_1 a1_2 a1_3 a1_4 a1_5 a1_6 a1_7 a1_8 a1_9 a1_10 a1_11 a1_12 a1_13 a1_14 l1_15 l1_16 l1_17 a1_18 a1_19 a1_20 a1_21 a1_22 a1_23).bind fun t792 => (if t792 = true then (none) else (if t779 = 0 then (if t781.toList = ([] : List UInt8) then (if t776.toList = a3_0.toList then (if t782.toList = a1_12.toList then (if t783 = 0 then (if bt785.2.2.2.1 = 0 then (if bt785.1.toList = a3_0.toList then ((bellwetherlaw23_known.f kj4).bind fun t793 => (some t793)) else (none)) else (none)) else (none)) else (none)) else (none)) else (none)) else (none))))) = some r := H
    have A19 := Aside0.mk A190
    clear A190
    replace H := Option.bind_eq_some_iff.mp H
    obtain ⟨⟨t785, t786, t787, t788, t789, t790⟩, A200, H⟩ := H
    replace H : ((gate_Sync.f a1_0 a1_1 a1_2 a1_3 a1_4 a1_5 a1_6 a1_7 a1_8 a1_9 a1_10 a1_11 a1_12 a1_13 a1_14 l1_15 l1_16 l1_17 a1_18 a1_19 a1_20 a1_21 a1_22 a1_23).bind fun t792 => (if t792 = true then (none) else (if t779 = 0 then (if t781.toList = ([] : List UInt8) then (if t776.toList = a3_0.toList then (if t782.toList = a1_12.toList then (if t783 = 0 then (if t788 = 0 then (if t785.toList = a3_0.toList then ((bellwetherlaw23_known.f kj4).bind fun t793 => (some t793)) else (none)) else (none)) else (none)) else (none)) else (none)) else (none)) else (none)))) = some r := H
    have A20 := Aside0.mk A200
    clear A200
    replace H := Option.bind_eq_some_iff.mp H
    obtain ⟨t792, A210, H⟩ := H
    replace H : (if t792 = true then (none) else (if t779 = 0 then (if t781.toList = ([] : List UInt8) then (if t776.toList = a3_0.toList then (if t782.toList = a1_12.toList then (if t783 = 0 then (if t788 = 0 then (if t785.toList = a3_0.toList then ((bellwetherlaw23_known.f kj4).bind fun t793 => (some t793)) else (none)) else (none)) else (none)) else (none)) else (none)) else (none)) else (none))) = some r := H
    have A21 := Aside0.mk A210
    clear A210
    by_cases c22 : t792 = true
    ·subst c22
     have H1 : (none) = some r := by rw [if_pos rfl] at H; exact H
     clear H
     have H := H1
     clear H1
     exact absurd H (by simp)
    ·replace c22 := Bool.eq_false_iff.mpr c22
     subst c22
     have H1 : (if t779 = 0 then (if t781.toList = ([] : List UInt8) then (if t776.toList = a3_0.toList then (if t782.toList = a1_12.toList then (if t783 = 0 then (if t788 = 0 then (if t785.toList = a3_0.toList then ((bellwetherlaw23_known.f kj4).bind fun t793 => (some t793)) else (none)) else (none)) else (none)) else (none)) else (none)) else (none)) else (none)) = some r := by rw [if_neg (show ¬ (false = true) by decide)] at H; exact H
     clear H
     have H := H1
     clear H1
     by_cases c23 : t779 = 0
     ·rw [if_pos c23] at H
      have c23b0 : (t779 == 0) = true := beq_iff_eq.mpr c23
      have c23b1 : (t779 != 0) = false := bne_eq_false_iff_eq.mpr c23
      clear c23
      by_cases c24 : t781.toList = ([] : List UInt8)
      ·rw [if_pos c24] at H
       have c24b0 : (t781.toList == ([] : List UInt8)) = true := beq_iff_eq.mpr c24
       have c24b1 : (t781.toList != ([] : List UInt8)) = false := bne_eq_false_iff_eq.mpr c24
       (try (have c24b2 : t781.toList.isEmpty = true := by simpa using c24))
       (try (have c24b3 : (!t781.toList.isEmpty) = false := by simpa using c24))
       clear c24
       by_cases c25 : t776.toList = a3_0.toList
       ·rw [if_pos c25] at H
        have c25b0 : (t776.toList == a3_0.toList) = true := beq_iff_eq.mpr c25
        have c25b1 : (t776.toList != a3_0.toList) = false := bne_eq_false_iff_eq.mpr c25
        clear c25
        by_cases c26 : t782.toList = a1_12.toList
        ·rw [if_pos c26] at H
         have c26b0 : (t782.toList == a1_12.toList) = true := beq_iff_eq.mpr c26
         have c26b1 : (t782.toList != a1_12.toList) = false := bne_eq_false_iff_eq.mpr c26
         clear c26
         by_cases c27 : t783 = 0
         ·rw [if_pos c27] at H
          have c27b0 : (t783 == 0) = true := beq_iff_eq.mpr c27
          have c27b1 : (t783 != 0) = false := bne_eq_false_iff_eq.mpr c27
          clear c27
          by_cases c28 : t788 = 0
          ·rw [if_pos c28] at H
           have c28b0 : (t788 == 0) = true := beq_iff_eq.mpr c28
           have c28b1 : (t788 != 0) = false := bne_eq_false_iff_eq.mpr c28
           clear c28
           by_cases c29 : t785.toList = a3_0.toList
           ·rw [if_pos c29] at H
            have c29b0 : (t785.toList == a3_0.toList) = true := beq_iff_eq.mpr c29
            have c29b1 : (t785.toList != a3_0.toList) = false := bne_eq_false_iff_eq.mpr c29
            clear c29
            replace H := Option.bind_eq_some_iff.mp H
            obtain ⟨t793, A300, H⟩ := H
            replace H : (some t793) = some r := H
            have A30 := Aside0.mk A300
            clear A300
            obtain rfl := Option.some.inj H
            have hnb31 := NB772_773.out
            have hnc31 := NB773_772.out
            have hnb32 := NB772_774.out
            have hnc32 := NB774_772.out
            obtain ⟨hcz33_0, hcz33_1, hcz33_2, hcz33_3, hcz33_4, hcz33_5, hcz33_6, hcz33_7, hcz33_8, hcz33_9, hcz33_10⟩ := cells_11 BK772.out
            obtain ⟨hfz33_0, hfz33_1, hfz33_2, hfz33_3, hfz33_4, hfz33_5, hfz33_6, hfz33_7, hfz33_8, hfz33_9, hfz33_10⟩ := frozen_11 BK772.out
            have hnb34 := NB773_774.out
            have hnc34 := NB774_773.out
            obtain ⟨hcz35_0, hcz35_1, hcz35_2, hcz35_3, hcz35_4, hcz35_5, hcz35_6, hcz35_7, hcz35_8, hcz35_9, hcz35_10, hcz35_11, hcz35_12, hcz35_13, hcz35_14, hcz35_15, hcz35_16, hcz35_17, hcz35_18, hcz35_19, hcz35_20, hcz35_21, hcz35_22, hcz35_23⟩ := cells_24 BK773.out
            obtain ⟨hfz35_0, hfz35_1, hfz35_2, hfz35_3, hfz35_4, hfz35_5, hfz35_6, hfz35_7, hfz35_8, hfz35_9, hfz35_10, hfz35_11, hfz35_12, hfz35_13, hfz35_14, hfz35_15, hfz35_16, hfz35_17, hfz35_18, hfz35_19, hfz35_20, hfz35_21, hfz35_22, hfz35_23⟩ := frozen_24 BK773.out
            obtain ⟨hcz36_0, hcz36_1, hcz36_2, hcz36_3, hcz36_4, hcz36_5⟩ := cells_6 BK774.out
            obtain ⟨hfz36_0, hfz36_1, hfz36_2, hfz36_3, hfz36_4, hfz36_5⟩ := frozen_6 BK774.out
            go_wp2_with (first | ((with_reducible refine gate_load (t := 24) (x := .tmp 4) rfl ?_); refine load_row_g (cs := ?_) ?hw 24 (.tmp 4) ?h2 gb772 ?hx 24 (fr := (0, 0)) (d := ?_) ?hg ?h3 ?h4 ?hi ?_; (case hw => first | (with_reducible rfl) | (go_simp; done) | rfl); (case h2 => rfl); (case hx => first | (with_reducible rfl) | (go_simp; done) | rfl); (case hg => exact BK772.out); (case h3 => exact Try.underlying24); (case h4 => rfl); (case hi => kernel_rfl)) | ((with_reducible refine gate_load (t := 44) (x := .tmp 5) rfl ?_); refine load_row_g (cs := ?_) ?hw 44 (.tmp 5) ?h2 gb773 ?hx 44 (fr := (0, 0)) (d := ?_) ?hg ?h3 ?h4 ?hi ?_; (case hw => first | (with_reducible rfl) | (go_simp; done) | rfl); (case h2 => rfl); (case hx => first | (with_reducible rfl) | (go_simp; done) | rfl); (case hg => exact BK773.out); (case h3 => exact Try.underlying44); (case h4 => rfl); (case hi => kernel_rfl)) | ((with_reducible refine gate_load (t := 76) (x := .tmp 7) rfl ?_); refine load_row_g (cs := ?_) ?hw 76 (.tmp 7) ?h2 gb774 ?hx 76 (fr := (0, 0)) (d := ?_) ?hg ?h3 ?h4 ?hi ?_; (case hw => first | (with_reducible rfl) | (go_simp; done) | rfl); (case h2 => rfl); (case hx => first | (with_reducible rfl) | (go_simp; done) | rfl); (case hg => exact BK774.out); (case h3 => exact Try.underlying76); (case h4 => rfl); (case hi => kernel_rfl)) | ((with_reducible refine gate_load (t := 76) (x := .tmp 9) rfl ?_); refine load_row_g (cs := ?_) ?hw 76 (.tmp 9) ?h2 gb784 ?hx 76 (fr := (0, 0)) (d := ?_) ?hg ?h3 ?h4 ?hi ?_; (case hw => first | (with_reducible rfl) | (go_simp; done) | rfl); (case h2 => rfl); (case hx => first | (with_reducible rfl) | (go_simp; done) | rfl); (case hg => exact BK784.out); (case h3 => exact Try.underlying76); (case h4 => rfl); (case hi => kernel_rfl)) | ((with_reducible refine gate_load (t := 76) (x := .tmp 12) rfl ?_); refine load_row_g (cs := ?_) ?hw 76 (.tmp 12) ?h2 gb791 ?hx 76 (fr := (0, 0)) (d := ?_) ?hg ?h3 ?h4 ?hi ?_; (case hw => first | (with_reducible rfl) | (go_simp; done) | rfl); (case h2 => rfl); (case hx => first | (with_reducible rfl) | (go_simp; done) | rfl); (case hg => exact BK791.out); (case h3 => exact Try.underlying76); (case h4 => rfl); (case hi => kernel_rfl)) | ((with_reducible refine gate_callee (f := 66) rfl ?_); refine goesL_ (some 28) rfl rfl Try.func66 (by kernel_rfl) rfl #[.agg #[.int .i64 a0_0, .int .i64 a0_1, .int .i64 a0_2, .int .i64 a0_3, .int .i64 a0_4, .int .i64 a0_5, .int .i64 a0_6, .int .i64 a0_7, .int .i64 a0_8, .int .i64 a0_9, .slice A0_10 l0_10.length c0_10], .agg #[.int .i64 a1_0, .int .i64 a1_1, .int .i64 a1_2, .string a1_3, .int .i64 a1_4, .string a1_5, .string a1_6, .int .i64 a1_7, .int .i64 a1_8, .string a1_9, .string a1_10, .string a1_11, .string a1_12, .string a1_13, .string a1_14, .slice A1_15 l1_15.length c1_15, .slice A1_16 l1_16.length c1_16, .slice A1_17 l1_17.length c1_17, .int .i64 a1_18, .int .i64 a1_19, .int .i64 a1_20, .int .i64 a1_21, .int .i64 a1_22, .int .i64 a1_23], .int .i64 a2, .agg #[.string a3_0, .int .i64 a3_1, .string a3_2, .int .i64 a3_3, .int .i64 a3_4, .string a3_5]] rfl (by (try simp only [List.map_toArray, List.map_cons, List.map_nil]); first | done | rfl | (simp only [List.length_drop, List.length_take]; rfl)) ?_; (with_reducible refine (gate_Send.calls kj4 a0_0 a0_1 a0_2 a0_3 a0_4 a0_5 a0_6 a0_7 a0_8 a0_9 _ _ l0_10 a1_0 a1_1 a1_2 a1_3 a1_4 a1_5 a1_6 a1_7 a1_8 a1_9 a1_10 a1_11 a1_12 a1_13 a1_14 _ _ l1_15 _ _ l1_16 _ _ l1_17 a1_18 a1_19 a1_20 a1_21 a1_22 a1_23 a2 a3_0 a3_1 a3_2 a3_3 a3_4 a3_5 t776 t777 t778 t779 t780 t781 t782 t783 _ ?side1 ?side2 ?side3 ?side4 ?side5 ?side6 ?side7 ?side8 A19.out).mono ?_); (case side1 => exact (Kd.C_below HR0_10.out HB.out)); (case side2 => exact HC0_10.out); (case side3 => exact (Kd.C_below HR1_15.out HB.out)); (case side4 => exact HC1_15.out); (case side5 => exact (Kd.C_below HR1_16.out HB.out)); (case side6 => exact HC1_16.out); (case side7 => exact (Kd.C_below HR1_17.out HB.out)); (case side8 => exact HC1_17.out); rintro e w37 ⟨rfl, hb⟩; refine ⟨_, rfl, ?_⟩; have n0_ := Aside0.mk (blk_below BK772.out hb); have n1_ := Aside0.mk (blk_below BK773.out hb); have n2_ := Aside0.mk (blk_below BK774.out hb); have n3_ := Aside0.mk (below_step HB.out hb); clear BK772; clear BK773; clear BK774; clear HB; have BK772 := n0_; have BK773 := n1_; have BK774 := n2_; have HB := n3_; clear n0_ n1_ n2_ n3_; (try clear hb); (try clear hb2); (try clear hk); (try clear hi)) | ((with_reducible refine gate_dst (N := 9) rfl ?_); refine box_event ?hg (N := 9) ?hd (cs := #[.string (⟨#[]⟩ : ByteArray), .int .i64 0, .string (⟨#[]⟩ : ByteArray), .int .i64 0, .int .i64 0, .string (⟨#[]⟩ : ByteArray)]) (t := 76) ?hr ?_; (case hd => rfl); (case hg => rfl); (case hr => first | (go_simp; done) | (go_simp; rfl)); intro gb784 hg w38 hbox hb; have n0_ := Aside0.mk (blk_below BK772.out hb); have n1_ := Aside0.mk (blk_below BK773.out hb); have n2_ := Aside0.mk (blk_below BK774.out hb); have n3_ := Aside0.mk (below_step HB.out hb); have n4_ := Aside0.mk (hbox); have n5_ := Aside0.mk ((by rw [hg]; exact (below_size HB.out) : w.heap.size ≤ gb784)); have n6_ := Aside0.mk ((by rw [hg]; exact (below_size HB.out) : w.heap.size ≤ gb784)); have n7_ := Aside0.mk ((by rw [hg]; exact Nat.ne_of_lt (blk_lt BK772.out) : gb772 ≠ gb784)); have n8_ := Aside0.mk ((by rw [hg]; exact Nat.ne_of_gt (blk_lt BK772.out) : gb784 ≠ gb772)); have n9_ := Aside0.mk ((by rw [hg]; exact Nat.ne_of_lt (blk_lt BK773.out) : gb773 ≠ gb784)); have n10_ := Aside0.mk ((by rw [hg]; exact Nat.ne_of_gt (blk_lt BK773.out) : gb784 ≠ gb773)); have n11_ := Aside0.mk ((by rw [hg]; exact Nat.ne_of_lt (blk_lt BK774.out) : gb774 ≠ gb784)); have n12_ := Aside0.mk ((by rw [hg]; exact Nat.ne_of_gt (blk_lt BK774.out) : gb784 ≠ gb774)); clear BK772; clear BK773; clear BK774; clear HB; have BK772 := n0_; have BK773 := n1_; have BK774 := n2_; have HB := n3_; have BK784 := n4_; have GW784 := n5_; have GE784 := n6_; have NB772_784 := n7_; have NB784_772 := n8_; have NB773_784 := n9_; have NB784_773 := n10_; have NB774_784 := n11_; have NB784_774 := n12_; clear n0_ n1_ n2_ n3_ n4_ n5_ n6_ n7_ n8_ n9_ n10_ n11_ n12_; clear hb hbox hg) | ((with_reducible refine gate_store (t := 76) (p := 9) rfl ?_); refine row_store_event (t := 76) (p := 9) (v := ?vo_w39) ?hgd ?ho ?hn gb784 #[.string t776, .int .i64 t777, .string t778, .int .i64 t779, .int .i64 t780, .string t781] ?hx ?hy 76 #[.string (⟨#[]⟩ : ByteArray), .int .i64 0, .string (⟨#[]⟩ : ByteArray), .int .i64 0, .int .i64 0, .string (⟨#[]⟩ : ByteArray)] ?hg ?hi ?hold ?h1 ?_; (case hgd => rfl); (case ho => rfl); (case hn => rfl); (case hx => rfl); (case hy => rfl); (case hg => exact (by (with_reducible repeat (first | refine blk_drewN ?_ _ | refine blk_drew ?_ | refine blk_alloc ?_ _)); exact BK784.out)); (case hi => kernel_rfl); (case hold => rfl); (case h1 => (first | kernel_rfl | simp [Value.oneCell'])); intro w39 hw; have n0_ : Aside0 (w39.heap[gb772]? = some (.cells #[.int .i64 a0_0, .int .i64 a0_1, .int .i64 a0_2, .int .i64 a0_3, .int .i64 a0_4, .int .i64 a0_5, .int .i64 a0_6, .int .i64 a0_7, .int .i64 a0_8, .int .i64 a0_9, .slice A0_10 l0_10.length c0_10] 24 (0, 0))) := ⟨(by rw [hw]; exact (by (with_reducible repeat (first | refine blk_drewN ?_ _ | refine blk_drew ?_ | refine blk_alloc ?_ _)); refine blk_farc ?_ NB772_784.out; (with_reducible repeat (first | refine blk_drewN ?_ _ | refine blk_drew ?_ | refine blk_alloc ?_ _)); exact BK772.out))⟩; have n1_ : Aside0 (w39.heap[gb773]? = some (.cells #[.int .i64 a1_0, .int .i64 a1_1, .int .i64 a1_2, .string a1_3, .int .i64 a1_4, .string a1_5, .string a1_6, .int .i64 a1_7, .int .i64 a1_8, .string a1_9, .string a1_10, .string a1_11, .string a1_12, .string a1_13, .string a1_14, .slice A1_15 l1_15.length c1_15, .slice A1_16 l1_16.length c1_16, .slice A1_17 l1_17.length c1_17, .int .i64 a1_18, .int .i64 a1_19, .int .i64 a1_20, .int .i64 a1_21, .int .i64 a1_22, .int .i64 a1_23] 44 (0, 0))) := ⟨(by rw [hw]; exact (by (with_reducible repeat (first | refine blk_drewN ?_ _ | refine blk_drew ?_ | refine blk_alloc ?_ _)); refine blk_farc ?_ NB773_784.out; (with_reducible repeat (first | refine blk_drewN ?_ _ | refine blk_drew ?_ | refine blk_alloc ?_ _)); exact BK773.out))⟩; have n2_ : Aside0 (w39.heap[gb774]? = some (.cells #[.string a3_0, .int .i64 a3_1, .string a3_2, .int .i64 a3_3, .int .i64 a3_4, .string a3_5] 76 (0, 0))) := ⟨(by rw [hw]; exact (by (with_reducible repeat (first | refine blk_drewN ?_ _ | refine blk_drew ?_ | refine blk_alloc ?_ _)); refine blk_farc ?_ NB774_784.out; (with_reducible repeat (first | refine blk_drewN ?_ _ | refine blk_drew ?_ | refine blk_alloc ?_ _)); exact BK774.out))⟩; have n3_ : Aside0 (w39.heap[gb784]? = some (.cells #[.string t776, .int .i64 t777, .string t778, .int .i64 t779, .int .i64 t780, .string t781] 76 (0, 0))) := ⟨(by rw [hw]; exact (by (with_reducible repeat (first | refine blk_drewN ?_ _ | refine blk_drew ?_ | refine blk_alloc ?_ _)); refine setRow_heap _ _ #[.string (⟨#[]⟩ : ByteArray), .int .i64 0, .string (⟨#[]⟩ : ByteArray), .int .i64 0, .int .i64 0, .string (⟨#[]⟩ : ByteArray)] _ 76 (0, 0) ?_; (with_reducible repeat (first | refine blk_drewN ?_ _ | refine blk_drew ?_ | refine blk_alloc ?_ _)); exact BK784.out))⟩; have n4_ : Aside0 (Below w.heap.size w w39) := ⟨(by rw [hw]; exact (by repeat (first | (with_reducible first | exact HB.out | refine below_setc ?_ GE784.out | apply below_alloc | apply pw_below_drewN | apply below_drew1 | refine below_set ?_ GE772.out | refine below_set ?_ GE773.out | refine below_set ?_ GE774.out | refine below_set ?_ GE784.out) | exact HB.out)))⟩; clear hw; clear BK772; clear BK773; clear BK774; clear BK784; clear HB; have BK772 := n0_; have BK773 := n1_; have BK774 := n2_; have BK784 := n3_; have HB := n4_; clear n0_ n1_ n2_ n3_ n4_; have hnb40 := NB772_784.out; have hnc40 := NB784_772.out; have hall1_ := cells_11 BK772.out; have hall2_ := frozen_11 BK772.out; have hnb42 := NB773_784.out; have hnc42 := NB784_773.out; have hall3_ := cells_24 BK773.out; have hall4_ := frozen_24 BK773.out; have hnb44 := NB774_784.out; have hnc44 := NB784_774.out; have hall5_ := cells_6 BK774.out; have hall6_ := frozen_6 BK774.out) | ((with_reducible refine gate_callee (f := 68) rfl ?_); refine goesL_ (some 36) rfl rfl Try.func68 (by kernel_rfl) rfl #[.agg #[.int .i64 a0_0, .int .i64 a0_1, .int .i64 a0_2, .int .i64 a0_3, .int .i64 a0_4, .int .i64 a0_5, .int .i64 a0_6, .int .i64 a0_7, .int .i64 a0_8, .int .i64 a0_9, .slice A0_10 l0_10.length c0_10], .agg #[.int .i64 a1_0, .int .i64 a1_1, .int .i64 a1_2, .string a1_3, .int .i64 a1_4, .string a1_5, .string a1_6, .int .i64 a1_7, .int .i64 a1_8, .string a1_9, .string a1_10, .string a1_11, .string a1_12, .string a1_13, .string a1_14, .slice A1_15 l1_15.length c1_15, .slice A1_16 l1_16.length c1_16, .slice A1_17 l1_17.length c1_17, .int .i64 a1_18, .int .i64 a1_19, .int .i64 a1_20, .int .i64 a1_21, .int .i64 a1_22, .int .i64 a1_23], .int .i64 a2, .agg #[.string a3_0, .int .i64 a3_1, .string a3_2, .int .i64 a3_3, .int .i64 a3_4, .string a3_5]] rfl (by (try simp only [List.map_toArray, List.map_cons, List.map_nil]); first | done | rfl | (simp only [List.length_drop, List.length_take]; rfl)) ?_; (with_reducible refine (gate_Guard.calls kj4 a0_0 a0_1 a0_2 a0_3 a0_4 a0_5 a0_6 a0_7 a0_8 a0_9 _ _ l0_10 a1_0 a1_1 a1_2 a1_3 a1_4 a1_5 a1_6 a1_7 a1_8 a1_9 a1_10 a1_11 a1_12 a1_13 a1_14 _ _ l1_15 _ _ l1_16 _ _ l1_17 a1_18 a1_19 a1_20 a1_21 a1_22 a1_23 a2 a3_0 a3_1 a3_2 a3_3 a3_4 a3_5 t785 t786 t787 t788 t789 t790 _ ?side1 ?side2 ?side3 ?side4 ?side5 ?side6 ?side7 ?side8 A20.out).mono ?_); (case side1 => exact (Kd.C_below HR0_10.out HB.out)); (case side2 => exact HC0_10.out); (case side3 => exact (Kd.C_below HR1_15.out HB.out)); (case side4 => exact HC1_15.out); (case side5 => exact (Kd.C_below HR1_16.out HB.out)); (case side6 => exact HC1_16.out); (case side7 => exact (Kd.C_below HR1_17.out HB.out)); (case side8 => exact HC1_17.out); rintro e w46 ⟨rfl, hb⟩; refine ⟨_, rfl, ?_⟩; have n0_ := Aside0.mk (blk_below BK772.out hb); have n1_ := Aside0.mk (blk_below BK773.out hb); have n2_ := Aside0.mk (blk_below BK774.out hb); have n3_ := Aside0.mk (blk_below BK784.out hb); have n4_ := Aside0.mk (below_step HB.out hb); clear BK772; clear BK773; clear BK774; clear BK784; clear HB; have BK772 := n0_; have BK773 := n1_; have BK774 := n2_; have BK784 := n3_; have HB := n4_; clear n0_ n1_ n2_ n3_ n4_; (try clear hb); (try clear hb2); (try clear hk); (try clear hi)) | ((with_reducible refine gate_dst (N := 12) rfl ?_); refine box_event ?hg (N := 12) ?hd (cs := #[.string (⟨#[]⟩ : ByteArray), .int .i64 0, .string (⟨#[]⟩ : ByteArray), .int .i64 0, .int .i64 0, .string (⟨#[]⟩ : ByteArray)]) (t := 76) ?hr ?_; (case hd => rfl); (case hg => rfl); (case hr => first | (go_simp; done) | (go_simp; rfl)); intro gb791 hg w47 hbox hb; have n0_ := Aside0.mk (blk_below BK772.out hb); have n1_ := Aside0.mk (blk_below BK773.out hb); have n2_ := Aside0.mk (blk_below BK774.out hb); have n3_ := Aside0.mk (blk_below BK784.out hb); have n4_ := Aside0.mk (below_step HB.out hb); have n5_ := Aside0.mk (hbox); have n6_ := Aside0.mk ((by rw [hg]; exact (below_size HB.out) : w.heap.size ≤ gb791)); have n7_ := Aside0.mk ((by rw [hg]; exact (below_size HB.out) : w.heap.size ≤ gb791)); have n8_ := Aside0.mk ((by rw [hg]; exact Nat.ne_of_lt (blk_lt BK772.out) : gb772 ≠ gb791)); have n9_ := Aside0.mk ((by rw [hg]; exact Nat.ne_of_gt (blk_lt BK772.out) : gb791 ≠ gb772)); have n10_ := Aside0.mk ((by rw [hg]; exact Nat.ne_of_lt (blk_lt BK773.out) : gb773 ≠ gb791)); have n11_ := Aside0.mk ((by rw [hg]; exact Nat.ne_of_gt (blk_lt BK773.out) : gb791 ≠ gb773)); have n12_ := Aside0.mk ((by rw [hg]; exact Nat.ne_of_lt (blk_lt BK774.out) : gb774 ≠ gb791)); have n13_ := Aside0.mk ((by rw [hg]; exact Nat.ne_of_gt (blk_lt BK774.out) : gb791 ≠ gb774)); have n14_ := Aside0.mk ((by rw [hg]; exact Nat.ne_of_lt (blk_lt BK784.out) : gb784 ≠ gb791)); have n15_ := Aside0.mk ((by rw [hg]; exact Nat.ne_of_gt (blk_lt BK784.out) : gb791 ≠ gb784)); clear BK772; clear BK773; clear BK774; clear BK784; clear HB; have BK772 := n0_; have BK773 := n1_; have BK774 := n2_; have BK784 := n3_; have HB := n4_; have BK791 := n5_; have GW791 := n6_; have GE791 := n7_; have NB772_791 := n8_; have NB791_772 := n9_; have NB773_791 := n10_; have NB791_773 := n11_; have NB774_791 := n12_; have NB791_774 := n13_; have NB784_791 := n14_; have NB791_784 := n15_; clear n0_ n1_ n2_ n3_ n4_ n5_ n6_ n7_ n8_ n9_ n10_ n11_ n12_ n13_ n14_ n15_; clear hb hbox hg) | ((with_reducible refine gate_store (t := 76) (p := 12) rfl ?_); refine row_store_event (t := 76) (p := 12) (v := ?vo_w48) ?hgd ?ho ?hn gb791 #[.string t785, .int .i64 t786, .string t787, .int .i64 t788, .int .i64 t789, .string t790] ?hx ?hy 76 #[.string (⟨#[]⟩ : ByteArray), .int .i64 0, .string (⟨#[]⟩ : ByteArray), .int .i64 0, .int .i64 0, .string (⟨#[]⟩ : ByteArray)] ?hg ?hi ?hold ?h1 ?_; (case hgd => rfl); (case ho => rfl); (case hn => rfl); (case hx => rfl); (case hy => rfl); (case hg => exact (by (with_reducible repeat (first | refine blk_drewN ?_ _ | refine blk_drew ?_ | refine blk_alloc ?_ _)); exact BK791.out)); (case hi => kernel_rfl); (case hold => rfl); (case h1 => (first | kernel_rfl | simp [Value.oneCell'])); intro w48 hw; have n0_ : Aside0 (w48.heap[gb772]? = some (.cells #[.int .i64 a0_0, .int .i64 a0_1, .int .i64 a0_2, .int .i64 a0_3, .int .i64 a0_4, .int .i64 a0_5, .int .i64 a0_6, .int .i64 a0_7, .int .i64 a0_8, .int .i64 a0_9, .slice A0_10 l0_10.length c0_10] 24 (0, 0))) := ⟨(by rw [hw]; exact (by (with_reducible repeat (first | refine blk_drewN ?_ _ | refine blk_drew ?_ | refine blk_alloc ?_ _)); refine blk_farc ?_ NB772_791.out; (with_reducible repeat (first | refine blk_drewN ?_ _ | refine blk_drew ?_ | refine blk_alloc ?_ _)); exact BK772.out))⟩; have n1_ : Aside0 (w48.heap[gb773]? = some (.cells #[.int .i64 a1_0, .int .i64 a1_1, .int .i64 a1_2, .string a1_3, .int .i64 a1_4, .string a1_5, .string a1_6, .int .i64 a1_7, .int .i64 a1_8, .string a1_9, .string a1_10, .string a1_11, .string a1_12, .string a1_13, .string a1_14, .slice A1_15 l1_15.length c1_15, .slice A1_16 l1_16.length c1_16, .slice A1_17 l1_17.length c1_17, .int .i64 a1_18, .int .i64 a1_19, .int .i64 a1_20, .int .i64 a1_21, .int .i64 a1_22, .int .i64 a1_23] 44 (0, 0))) := ⟨(by rw [hw]; exact (by (with_reducible repeat (first | refine blk_drewN ?_ _ | refine blk_drew ?_ | refine blk_alloc ?_ _)); refine blk_farc ?_ NB773_791.out; (with_reducible repeat (first | refine blk_drewN ?_ _ | refine blk_drew ?_ | refine blk_alloc ?_ _)); exact BK773.out))⟩; have n2_ : Aside0 (w48.heap[gb774]? = some (.cells #[.string a3_0, .int .i64 a3_1, .string a3_2, .int .i64 a3_3, .int .i64 a3_4, .string a3_5] 76 (0, 0))) := ⟨(by rw [hw]; exact (by (with_reducible repeat (first | refine blk_drewN ?_ _ | refine blk_drew ?_ | refine blk_alloc ?_ _)); refine blk_farc ?_ NB774_791.out; (with_reducible repeat (first | refine blk_drewN ?_ _ | refine blk_drew ?_ | refine blk_alloc ?_ _)); exact BK774.out))⟩; have n3_ : Aside0 (w48.heap[gb784]? = some (.cells #[.string t776, .int .i64 t777, .string t778, .int .i64 t779, .int .i64 t780, .string t781] 76 (0, 0))) := ⟨(by rw [hw]; exact (by (with_reducible repeat (first | refine blk_drewN ?_ _ | refine blk_drew ?_ | refine blk_alloc ?_ _)); refine blk_farc ?_ NB784_791.out; (with_reducible repeat (first | refine blk_drewN ?_ _ | refine blk_drew ?_ | refine blk_alloc ?_ _)); exact BK784.out))⟩; have n4_ : Aside0 (w48.heap[gb791]? = some (.cells #[.string t785, .int .i64 t786, .string t787, .int .i64 t788, .int .i64 t789, .string t790] 76 (0, 0))) := ⟨(by rw [hw]; exact (by (with_reducible repeat (first | refine blk_drewN ?_ _ | refine blk_drew ?_ | refine blk_alloc ?_ _)); refine setRow_heap _ _ #[.string (⟨#[]⟩ : ByteArray), .int .i64 0, .string (⟨#[]⟩ : ByteArray), .int .i64 0, .int .i64 0, .string (⟨#[]⟩ : ByteArray)] _ 76 (0, 0) ?_; (with_reducible repeat (first | refine blk_drewN ?_ _ | refine blk_drew ?_ | refine blk_alloc ?_ _)); exact BK791.out))⟩; have n5_ : Aside0 (Below w.heap.size w w48) := ⟨(by rw [hw]; exact (by repeat (first | (with_reducible first | exact HB.out | refine below_setc ?_ GE791.out | apply below_alloc | apply pw_below_drewN | apply below_drew1 | refine below_set ?_ GE772.out | refine below_set ?_ GE773.out | refine below_set ?_ GE774.out | refine below_set ?_ GE784.out | refine below_set ?_ GE791.out) | exact HB.out)))⟩; clear hw; clear BK772; clear BK773; clear BK774; clear BK784; clear BK791; clear HB; have BK772 := n0_; have BK773 := n1_; have BK774 := n2_; have BK784 := n3_; have BK791 := n4_; have HB := n5_; clear n0_ n1_ n2_ n3_ n4_ n5_; have hnb49 := NB773_791.out; have hnc49 := NB791_773.out; have hall7_ := cells_24 BK773.out; have hall8_ := frozen_24 BK773.out) | ((with_reducible refine gate_callee (f := 47) rfl ?_); refine goesL_ (some 38) rfl rfl Try.func47 (by kernel_rfl) rfl #[.agg #[.int .i64 a1_0, .int .i64 a1_1, .int .i64 a1_2, .string a1_3, .int .i64 a1_4, .string a1_5, .string a1_6, .int .i64 a1_7, .int .i64 a1_8, .string a1_9, .string a1_10, .string a1_11, .string a1_12, .string a1_13, .string a1_14, .slice A1_15 l1_15.length c1_15, .slice A1_16 l1_16.length c1_16, .slice A1_17 l1_17.length c1_17, .int .i64 a1_18, .int .i64 a1_19, .int .i64 a1_20, .int .i64 a1_21, .int .i64 a1_22, .int .i64 a1_23]] rfl (by (try simp only [List.map_toArray, List.map_cons, List.map_nil]); first | done | rfl | (simp only [List.length_drop, List.length_take]; rfl)) ?_; (with_reducible refine (gate_Sync.calls a1_0 a1_1 a1_2 a1_3 a1_4 a1_5 a1_6 a1_7 a1_8 a1_9 a1_10 a1_11 a1_12 a1_13 a1_14 _ _ l1_15 _ _ l1_16 _ _ l1_17 a1_18 a1_19 a1_20 a1_21 a1_22 a1_23 false _ ?side1 ?side2 ?side3 ?side4 ?side5 ?side6 A21.out).mono ?_); (case side1 => exact (Kd.C_below HR1_15.out HB.out)); (case side2 => exact HC1_15.out); (case side3 => exact (Kd.C_below HR1_16.out HB.out)); (case side4 => exact HC1_16.out); (case side5 => exact (Kd.C_below HR1_17.out HB.out)); (case side6 => exact HC1_17.out); rintro e w51 ⟨rfl, hb⟩; refine ⟨_, rfl, ?_⟩; have n0_ := Aside0.mk (blk_below BK772.out hb); have n1_ := Aside0.mk (blk_below BK773.out hb); have n2_ := Aside0.mk (blk_below BK774.out hb); have n3_ := Aside0.mk (blk_below BK784.out hb); have n4_ := Aside0.mk (blk_below BK791.out hb); have n5_ := Aside0.mk (below_step HB.out hb); clear BK772; clear BK773; clear BK774; clear BK784; clear BK791; clear HB; have BK772 := n0_; have BK773 := n1_; have BK774 := n2_; have BK784 := n3_; have BK791 := n4_; have HB := n5_; clear n0_ n1_ n2_ n3_ n4_ n5_; (try clear hb); (try clear hb2); (try clear hk); (try clear hi); have hnb52 := NB784_791.out; have hnc52 := NB791_784.out; have hall9_ := cells_6 BK784.out; have hall10_ := frozen_6 BK784.out; have hnb54 := NB774_791.out; have hnc54 := NB791_774.out; have hall11_ := cells_6 BK774.out; have hall12_ := frozen_6 BK774.out; have hall13_ := cells_24 BK773.out; have hall14_ := frozen_24 BK773.out; have hnb57 := NB791_772.out; have hnc57 := NB772_791.out; have hall15_ := cells_6 BK791.out; have hall16_ := frozen_6 BK791.out) | (go_at_call 46; (with_reducible refine (bellwetherlaw23_known.calls kj4  t793 _ A30.out).mono ?_); rintro e w59 ⟨rfl, hb⟩; have n0_ := Aside0.mk (blk_below BK772.out hb); have n1_ := Aside0.mk (blk_below BK773.out hb); have n2_ := Aside0.mk (blk_below BK774.out hb); have n3_ := Aside0.mk (blk_below BK784.out hb); have n4_ := Aside0.mk (blk_below BK791.out hb); have n5_ := Aside0.mk (below_step HB.out hb); clear BK772; clear BK773; clear BK774; clear BK784; clear BK791; clear HB; have BK772 := n0_; have BK773 := n1_; have BK774 := n2_; have BK784 := n3_; have BK791 := n4_; have HB := n5_; clear n0_ n1_ n2_ n3_ n4_ n5_; (try clear hb); (try clear hb2); (try clear hk); (try clear hi)))
            go_ret
            exact ⟨by first | rfl | (simp [errW_none, errW_some] <;> rfl) | (simp [*, errW_none, errW_some] <;> rfl), by repeat (first | (with_reducible first | exact HB.out | apply below_alloc | apply pw_below_drewN | apply below_drew1 | refine below_set ?_ GE772.out | refine below_set ?_ GE773.out | refine below_set ?_ GE774.out | refine below_set ?_ GE784.out | refine below_set ?_ GE791.out) | exact HB.out)⟩
           ·rw [if_neg c29] at H
            exact absurd H (by simp)
          ·rw [if_neg c28] at H
           exact absurd H (by simp)
         ·rw [if_neg c27] at H
          exact absurd H (by simp)
        ·rw [if_neg c26] at H
         exact absurd H (by simp)
       ·rw [if_neg c25] at H
        exact absurd H (by simp)
      ·rw [if_neg c24] at H
       exact absurd H (by simp)
     ·rw [if_neg c23] at H
      exact absurd H (by simp)
end Go.Proofs.Ytdcknaoamjlaiaa.Gn
