import Derived.Test.YtdcknaoamjlaiaaZGateGuardsGn0
import Derived.Test.YtdcknaoamjlaiaaZGateGuardsGn3
import Derived.Test.YtdcknaoamjlaiaaZGateGuardsGn21
import Derived.Test.YtdcknaoamjlaiaaZGateGuardsGn24
import Derived.Test.YtdcknaoamjlaiaaZGateGuardsGn25
import Derived.Test.YtdcknaoamjlaiaaZGateGuardsGn51
namespace Go.Proofs.Ytdcknaoamjlaiaa.Gn
open Go.RowKit Go.Proofs.YtdcknaoamjlaiaaW.PrintWords Go.Proofs.YtdcknaoamjlaiaaW.PrintLast Go.Proofs.YtdcknaoamjlaiaaW.PrintMore
attribute [local go_sem] max2_int min2_int max_two min_two max_three min_three max_four min_four   -- for this text's walks alone
set_option linter.unusedVariables false
set_option linter.unusedSimpArgs false
def gate_Open.j0 : Nat → Int → Bool → Int → Int → Int → Int → Int → Int → Int → Int → Int → Int → List Int → Int → Int → Int → ByteArray → Int → ByteArray → ByteArray → Int → Int → ByteArray → ByteArray → ByteArray → ByteArray → ByteArray → ByteArray → List (S140) → List ByteArray → List (S142) → Int → Int → Int → Int → Int → Int → Option (Int)
 | 0, _, _, _, _, _, _, _, _, _, _, _, _, _, _, _, _, _, _, _, _, _, _, _, _, _, _, _, _, _, _, _, _, _, _, _, _, _ => none
 | k + 1, x2, x14, x412000, x412001, x412002, x412003, x412004, x412005, x412006, x412007, x412008, x412009, x412010, x413000, x413001, x413002, x413003, x413004, x413005, x413006, x413007, x413008, x413009, x413010, x413011, x413012, x413013, x413014, x413015, x413016, x413017, x413018, x413019, x413020, x413021, x413022, x413023 => if x14 = true then (some (-1)) else ((slot_Elapsed.f x413000 x413001).bind fun t415 => ((sched_Due.f k x412000 x412001 x412002 x412003 x412004 x412005 x412006 x412007 x412008 x412009 x412010 x2 t415 x413012).bind fun t416 => (some t416)))
def gate_Open.f (k : Nat) (a0_0 a0_1 a0_2 a0_3 a0_4 a0_5 a0_6 a0_7 a0_8 a0_9 : Int) (l0_10 : List Int) (a1_0 a1_1 a1_2 : Int) (a1_3 : ByteArray) (a1_4 : Int) (a1_5 a1_6 : ByteArray) (a1_7 a1_8 : Int) (a1_9 a1_10 a1_11 a1_12 a1_13 a1_14 : ByteArray) (l1_15 : List (S140)) (l1_16 : List ByteArray) (l1_17 : List (S142)) (a1_18 a1_19 a1_20 a1_21 a1_22 a1_23 a2 : Int) : Option (Int) := (gate_Sync.f a1_0 a1_1 a1_2 a1_3 a1_4 a1_5 a1_6 a1_7 a1_8 a1_9 a1_10 a1_11 a1_12 a1_13 a1_14 l1_15 l1_16 l1_17 a1_18 a1_19 a1_20 a1_21 a1_22 a1_23).bind fun t413 => (if t413 = true then ((conf_Plain.f k a0_0 a0_1 a0_2 a0_3 a0_4 a0_5 a0_6 a0_7 a0_8 a0_9 l0_10).bind fun t414 => (gate_Open.j0 k a2 (t414 != 0) a0_0 a0_1 a0_2 a0_3 a0_4 a0_5 a0_6 a0_7 a0_8 a0_9 l0_10 a1_0 a1_1 a1_2 a1_3 a1_4 a1_5 a1_6 a1_7 a1_8 a1_9 a1_10 a1_11 a1_12 a1_13 a1_14 l1_15 l1_16 l1_17 a1_18 a1_19 a1_20 a1_21 a1_22 a1_23)) else (gate_Open.j0 k a2 true a0_0 a0_1 a0_2 a0_3 a0_4 a0_5 a0_6 a0_7 a0_8 a0_9 l0_10 a1_0 a1_1 a1_2 a1_3 a1_4 a1_5 a1_6 a1_7 a1_8 a1_9 a1_10 a1_11 a1_12 a1_13 a1_14 l1_15 l1_16 l1_17 a1_18 a1_19 a1_20 a1_21 a1_22 a1_23))
theorem gate_Open.mono_l : ∀ k, (∀ y0 y1 y2 y3 y4 y5 y6 y7 y8 y9 y10 y11 y12 y13 y14 y15 y16 y17 y18 y19 y20 y21 y22 y23 y24 y25 y26 y27 y28 y29 y30 y31 y32 y33 y34 y35 y36, LeO (gate_Open.j0 k y0 y1 y2 y3 y4 y5 y6 y7 y8 y9 y10 y11 y12 y13 y14 y15 y16 y17 y18 y19 y20 y21 y22 y23 y24 y25 y26 y27 y28 y29 y30 y31 y32 y33 y34 y35 y36) (gate_Open.j0 (k + 1) y0 y1 y2 y3 y4 y5 y6 y7 y8 y9 y10 y11 y12 y13 y14 y15 y16 y17 y18 y19 y20 y21 y22 y23 y24 y25 y26 y27 y28 y29 y30 y31 y32 y33 y34 y35 y36))
 | 0 => fun _ _ _ _ _ _ _ _ _ _ _ _ _ _ _ _ _ _ _ _ _ _ _ _ _ _ _ _ _ _ _ _ _ _ _ _ _ r h => by simp [gate_Open.j0] at h
 | k + 1 => by
  have ih0 := gate_Open.mono_l k
  ·intro y0 y1 y2 y3 y4 y5 y6 y7 y8 y9 y10 y11 y12 y13 y14 y15 y16 y17 y18 y19 y20 y21 y22 y23 y24 y25 y26 y27 y28 y29 y30 y31 y32 y33 y34 y35 y36
   unfold gate_Open.j0
   repeat' first
   | (with_reducible exact ih0 _ _ _ _ _ _ _ _ _ _ _ _ _ _ _ _ _ _ _ _ _ _ _ _ _ _ _ _ _ _ _ _ _ _ _ _ _)
   | (with_reducible exact conf_Plain.mono _ _ _ _ _ _ _ _ _ _ _ _)
   | (with_reducible exact sched_Due.mono _ _ _ _ _ _ _ _ _ _ _ _ _ _ _)
   | (with_reducible exact LeO.refl _)
   | (with_reducible exact LeO.none _)
   | (with_reducible refine LeO.ite ?_ ?_)
   | (with_reducible refine LeO.bind ?_ (fun _ => ?_))
   | exact ih0 _ _ _ _ _ _ _ _ _ _ _ _ _ _ _ _ _ _ _ _ _ _ _ _ _ _ _ _ _ _ _ _ _ _ _ _ _
   | exact conf_Plain.mono _ _ _ _ _ _ _ _ _ _ _ _
   | exact sched_Due.mono _ _ _ _ _ _ _ _ _ _ _ _ _ _ _
   | exact LeO.none _
   | refine LeO.ite ?_ ?_
   | refine LeO.bind ?_ (fun _ => ?_)
theorem gate_Open.mono : ∀ a0 a1 a2 a3 a4 a5 a6 a7 a8 a9 a10 a11 a12 a13 a14 a15 a16 a17 a18 a19 a20 a21 a22 a23 a24 a25 a26 a27 a28 a29 a30 a31 a32 a33 a34 a35 k, LeO (gate_Open.f k a0 a1 a2 a3 a4 a5 a6 a7 a8 a9 a10 a11 a12 a13 a14 a15 a16 a17 a18 a19 a20 a21 a22 a23 a24 a25 a26 a27 a28 a29 a30 a31 a32 a33 a34 a35) (gate_Open.f (k + 1) a0 a1 a2 a3 a4 a5 a6 a7 a8 a9 a10 a11 a12 a13 a14 a15 a16 a17 a18 a19 a20 a21 a22 a23 a24 a25 a26 a27 a28 a29 a30 a31 a32 a33 a34 a35) := by
 intro a0 a1 a2 a3 a4 a5 a6 a7 a8 a9 a10 a11 a12 a13 a14 a15 a16 a17 a18 a19 a20 a21 a22 a23 a24 a25 a26 a27 a28 a29 a30 a31 a32 a33 a34 a35 k
 have ih0 := gate_Open.mono_l k
 unfold gate_Open.f
 repeat' first
   | (with_reducible exact ih0 _ _ _ _ _ _ _ _ _ _ _ _ _ _ _ _ _ _ _ _ _ _ _ _ _ _ _ _ _ _ _ _ _ _ _ _ _)
   | (with_reducible exact conf_Plain.mono _ _ _ _ _ _ _ _ _ _ _ _)
   | (with_reducible exact sched_Due.mono _ _ _ _ _ _ _ _ _ _ _ _ _ _ _)
   | (with_reducible exact LeO.refl _)
   | (with_reducible exact LeO.none _)
   | (with_reducible refine LeO.ite ?_ ?_)
   | (with_reducible refine LeO.bind ?_ (fun _ => ?_))
   | exact ih0 _ _ _ _ _ _ _ _ _ _ _ _ _ _ _ _ _ _ _ _ _ _ _ _ _ _ _ _ _ _ _ _ _ _ _ _ _
   | exact conf_Plain.mono _ _ _ _ _ _ _ _ _ _ _ _
   | exact sched_Due.mono _ _ _ _ _ _ _ _ _ _ _ _ _ _ _
   | exact LeO.none _
   | refine LeO.ite ?_ ?_
   | refine LeO.bind ?_ (fun _ => ?_)
def gate_Open.T3 : Bool × List (List Nat × List Nat) := (true, [([], []), ([], []), ([], []), ([2], [2]), ([], []), ([4], [4]), ([3, 5], [3, 5]), ([], []), ([7], [7]), ([0, 1, 6, 8, 6], [0, 1, 6, 8]), ([9, 9, 0, 1, 2, 3, 4, 5, 6, 7, 8, 9], [9])])
def gate_Open.B3 : List Nat := [0, 0, 0, 4, 0, 16, 60, 0, 128, 511, 1023]
theorem gate_Open.tab3 : rtab .any (opsOf Try.f51 3) = gate_Open.T3 := by kernel_rfl
theorem gate_Open.bits3 : waitsOk gate_Open.T3.2 gate_Open.B3 = true := by kernel_rfl
set_option maxHeartbeats 8000000 in
set_option maxRecDepth 100000 in
theorem gate_Open.calls (k : Nat) (a0_0 a0_1 a0_2 a0_3 a0_4 a0_5 a0_6 a0_7 a0_8 a0_9 : Int) (A0_10 : Option Addr) (c0_10 : Nat) (l0_10 : List Int) (a1_0 a1_1 a1_2 : Int) (a1_3 : ByteArray) (a1_4 : Int) (a1_5 a1_6 : ByteArray) (a1_7 a1_8 : Int) (a1_9 a1_10 a1_11 a1_12 a1_13 a1_14 : ByteArray) (A1_15 : Option Addr) (c1_15 : Nat) (l1_15 : List (S140)) (A1_16 : Option Addr) (c1_16 : Nat) (l1_16 : List ByteArray) (A1_17 : Option Addr) (c1_17 : Nat) (l1_17 : List (S142)) (a1_18 a1_19 a1_20 a1_21 a1_22 a1_23 a2 r : Int) (w : World) (hr0_10 : Kd.C (Kd.int .i64) w A0_10 l0_10.length l0_10) (hc0_10 : l0_10.length ≤ c0_10) (hr1_15 : Kd.C k140 w A1_15 l1_15.length l1_15) (hc1_15 : l1_15.length ≤ c1_15) (hr1_16 : Kd.C Kd.string w A1_16 l1_16.length l1_16) (hc1_16 : l1_16.length ≤ c1_16) (hr1_17 : Kd.C k142 w A1_17 l1_17.length l1_17) (hc1_17 : l1_17.length ≤ c1_17) (h : gate_Open.f k a0_0 a0_1 a0_2 a0_3 a0_4 a0_5 a0_6 a0_7 a0_8 a0_9 l0_10 a1_0 a1_1 a1_2 a1_3 a1_4 a1_5 a1_6 a1_7 a1_8 a1_9 a1_10 a1_11 a1_12 a1_13 a1_14 l1_15 l1_16 l1_17 a1_18 a1_19 a1_20 a1_21 a1_22 a1_23 a2 = some r) :
  Calls Try.prog 51 #[.agg #[.int .i64 a0_0, .int .i64 a0_1, .int .i64 a0_2, .int .i64 a0_3, .int .i64 a0_4, .int .i64 a0_5, .int .i64 a0_6, .int .i64 a0_7, .int .i64 a0_8, .int .i64 a0_9, .slice A0_10 l0_10.length c0_10], .agg #[.int .i64 a1_0, .int .i64 a1_1, .int .i64 a1_2, .string a1_3, .int .i64 a1_4, .string a1_5, .string a1_6, .int .i64 a1_7, .int .i64 a1_8, .string a1_9, .string a1_10, .string a1_11, .string a1_12, .string a1_13, .string a1_14, .slice A1_15 l1_15.length c1_15, .slice A1_16 l1_16.length c1_16, .slice A1_17 l1_17.length c1_17, .int .i64 a1_18, .int .i64 a1_19, .int .i64 a1_20, .int .i64 a1_21, .int .i64 a1_22, .int .i64 a1_23], .int .i64 a2] w fun e w' => e = .returned (.int .i64 r) ∧ Below w.heap.size w w' := by
 have hu24 := Try.underlying24
 have HR0_10 := Aside0.mk hr0_10
 have HC0_10 := Aside0.mk hc0_10
 clear hr0_10 hc0_10
 have HR1_15 := Aside0.mk hr1_15
 have HC1_15 := Aside0.mk hc1_15
 clear hr1_15 hc1_15
 have HR1_16 := Aside0.mk hr1_16
 have HC1_16 := Aside0.mk hc1_16
 clear hr1_16 hc1_16
 have HR1_17 := Aside0.mk hr1_17
 have HC1_17 := Aside0.mk hc1_17
 clear hr1_17 hc1_17
 have HB := Aside0.mk (Below.refl w.heap.size w)
 have H : ((gate_Sync.f a1_0 a1_1 a1_2 a1_3 a1_4 a1_5 a1_6 a1_7 a1_8 a1_9 a1_10 a1_11 a1_12 a1_13 a1_14 l1_15 l1_16 l1_17 a1_18 a1_19 a1_20 a1_21 a1_22 a1_23).bind fun t413 => (if t413 = true then ((conf_Plain.f k a0_0 a0_1 a0_2 a0_3 a0_4 a0_5 a0_6 a0_7 a0_8 a0_9 l0_10).bind fun t414 => (gate_Open.j0 k a2 (t414 != 0) a0_0 a0_1 a0_2 a0_3 a0_4 a0_5 a0_6 a0_7 a0_8 a0_9 l0_10 a1_0 a1_1 a1_2 a1_3 a1_4 a1_5 a1_6 a1_7 a1_8 a1_9 a1_10 a1_11 a1_12 a1_13 a1_14 l1_15 l1_16 l1_17 a1_18 a1_19 a1_20 a1_21 a1_22 a1_23)) else (gate_Open.j0 k a2 true a0_0 a0_1 a0_2 a0_3 a0_4 a0_5 a0_6 a0_7 a0_8 a0_9 l0_10 a1_0 a1_1 a1_2 a1_3 a1_4 a1_5 a1_6 a1_7 a1_8 a1_9 a1_10 a1_11 a1_12 a1_13 a1_14 l1_15 l1_16 l1_17 a1_18 a1_19 a1_20 a1_21 a1_22 a1_23))) = some r := h
 clear h
 have HC4 := Aside0.mk H
 clear H
 go_enter Try.func51, Try.ntmps51
 go_upto_region 1 with (first | ((with_reducible refine gate_load (t := 44) (x := .tmp 4) rfl ?_); refine load_row_g (cs := ?_) ?hw 44 (.tmp 4) ?h2 gb412 ?hx 44 (fr := (0, 0)) (d := ?_) ?hg ?h3 ?h4 ?hi ?_; (case hw => first | (with_reducible rfl) | (go_simp; done) | rfl); (case h2 => rfl); (case hx => first | (with_reducible rfl) | (go_simp; done) | rfl); (case hg => (with_reducible repeat (first | refine blk_drewN ?_ _ | refine blk_drew ?_ | refine blk_alloc ?_ _)); exact BK412.out); (case h3 => exact Try.underlying44); (case h4 => rfl); (case hi => kernel_rfl)) | ((with_reducible refine gate_dst (N := 3) rfl ?_); refine box_event ?hg (N := 3) ?hd (cs := #[.int .i64 a0_0, .int .i64 a0_1, .int .i64 a0_2, .int .i64 a0_3, .int .i64 a0_4, .int .i64 a0_5, .int .i64 a0_6, .int .i64 a0_7, .int .i64 a0_8, .int .i64 a0_9, .slice A0_10 l0_10.length c0_10]) (t := 24) ?hr ?_; (case hd => rfl); (case hg => rfl); (case hr => first | (go_simp; done) | (go_simp; rfl)); intro gb411 hg w5 hbox hb; have n0_ := Aside0.mk (below_step (by repeat (first | (with_reducible first | exact HB.out | apply below_alloc | apply pw_below_drewN | apply below_drew1) | exact HB.out)) hb); have n1_ := Aside0.mk (hbox); have n2_ := Aside0.mk ((by rw [hg]; exact (below_size (by repeat (first | (with_reducible first | exact HB.out | apply below_alloc | apply pw_below_drewN | apply below_drew1) | exact HB.out))) : w.heap.size ≤ gb411)); have n3_ := Aside0.mk ((by rw [hg]; exact (below_size (by repeat (first | (with_reducible first | exact HB.out | apply below_alloc | apply pw_below_drewN | apply below_drew1) | exact HB.out))) : w.heap.size ≤ gb411)); clear HB; have HB := n0_; have BK411 := n1_; have GW411 := n2_; have GE411 := n3_; clear n0_ n1_ n2_ n3_; clear hb hbox hg) | ((with_reducible refine gate_dst (N := 4) rfl ?_); refine box_event ?hg (N := 4) ?hd (cs := #[.int .i64 a1_0, .int .i64 a1_1, .int .i64 a1_2, .string a1_3, .int .i64 a1_4, .string a1_5, .string a1_6, .int .i64 a1_7, .int .i64 a1_8, .string a1_9, .string a1_10, .string a1_11, .string a1_12, .string a1_13, .string a1_14, .slice A1_15 l1_15.length c1_15, .slice A1_16 l1_16.length c1_16, .slice A1_17 l1_17.length c1_17, .int .i64 a1_18, .int .i64 a1_19, .int .i64 a1_20, .int .i64 a1_21, .int .i64 a1_22, .int .i64 a1_23]) (t := 44) ?hr ?_; (case hd => rfl); (case hg => rfl); (case hr => first | (go_simp; done) | (go_simp; rfl)); intro gb412 hg w6 hbox hb; have n0_ := Aside0.mk (blk_below (g := gb411) (o := .cells #[.int .i64 a0_0, .int .i64 a0_1, .int .i64 a0_2, .int .i64 a0_3, .int .i64 a0_4, .int .i64 a0_5, .int .i64 a0_6, .int .i64 a0_7, .int .i64 a0_8, .int .i64 a0_9, .slice A0_10 l0_10.length c0_10] 24 (0, 0)) (by (with_reducible repeat (first | refine blk_drewN ?_ _ | refine blk_drew ?_ | refine blk_alloc ?_ _)); exact BK411.out) hb); have n1_ := Aside0.mk (below_step (by repeat (first | (with_reducible first | exact HB.out | apply below_alloc | apply pw_below_drewN | apply below_drew1 | refine below_set ?_ GE411.out) | exact HB.out)) hb); have n2_ := Aside0.mk (hbox); have n3_ := Aside0.mk ((by rw [hg]; exact (below_size (by repeat (first | (with_reducible first | exact HB.out | apply below_alloc | apply pw_below_drewN | apply below_drew1 | refine below_set ?_ GE411.out) | exact HB.out))) : w.heap.size ≤ gb412)); have n4_ := Aside0.mk ((by rw [hg]; exact (below_size (by repeat (first | (with_reducible first | exact HB.out | apply below_alloc | apply pw_below_drewN | apply below_drew1 | refine below_set ?_ GE411.out) | exact HB.out))) : w.heap.size ≤ gb412)); have n5_ := Aside0.mk ((by rw [hg]; exact Nat.ne_of_lt (blk_lt (g := gb411) (o := .cells #[.int .i64 a0_0, .int .i64 a0_1, .int .i64 a0_2, .int .i64 a0_3, .int .i64 a0_4, .int .i64 a0_5, .int .i64 a0_6, .int .i64 a0_7, .int .i64 a0_8, .int .i64 a0_9, .slice A0_10 l0_10.length c0_10] 24 (0, 0)) (by (with_reducible repeat (first | refine blk_drewN ?_ _ | refine blk_drew ?_ | refine blk_alloc ?_ _)); exact BK411.out)) : gb411 ≠ gb412)); have n6_ := Aside0.mk ((by rw [hg]; exact Nat.ne_of_gt (blk_lt (g := gb411) (o := .cells #[.int .i64 a0_0, .int .i64 a0_1, .int .i64 a0_2, .int .i64 a0_3, .int .i64 a0_4, .int .i64 a0_5, .int .i64 a0_6, .int .i64 a0_7, .int .i64 a0_8, .int .i64 a0_9, .slice A0_10 l0_10.length c0_10] 24 (0, 0)) (by (with_reducible repeat (first | refine blk_drewN ?_ _ | refine blk_drew ?_ | refine blk_alloc ?_ _)); exact BK411.out)) : gb412 ≠ gb411)); clear BK411; clear HB; have BK411 := n0_; have HB := n1_; have BK412 := n2_; have GW412 := n3_; have GE412 := n4_; have NB411_412 := n5_; have NB412_411 := n6_; clear n0_ n1_ n2_ n3_ n4_ n5_ n6_; clear hb hbox hg))
 (try simp only [Act.put, List.setIfInBounds_toArray, List.set_cons_zero, List.set_cons_succ])
 go_cut [14] (fun v14 wc => ∃ (kq : Nat) (x14_3 : Bool), v14 = .bool x14_3 ∧ Aside0 (gate_Open.j0 kq a2 x14_3 a0_0 a0_1 a0_2 a0_3 a0_4 a0_5 a0_6 a0_7 a0_8 a0_9 l0_10 a1_0 a1_1 a1_2 a1_3 a1_4 a1_5 a1_6 a1_7 a1_8 a1_9 a1_10 a1_11 a1_12 a1_13 a1_14 l1_15 l1_16 l1_17 a1_18 a1_19 a1_20 a1_21 a1_22 a1_23 = some r) ∧ Aside0 (kq ≤ k) ∧ Aside0 (wc.heap[gb411]? = some (.cells #[.int .i64 a0_0, .int .i64 a0_1, .int .i64 a0_2, .int .i64 a0_3, .int .i64 a0_4, .int .i64 a0_5, .int .i64 a0_6, .int .i64 a0_7, .int .i64 a0_8, .int .i64 a0_9, (.slice A0_10 l0_10.length c0_10)] 24 (0, 0))) ∧ Aside0 (wc.heap[gb412]? = some (.cells #[.int .i64 a1_0, .int .i64 a1_1, .int .i64 a1_2, .string a1_3, .int .i64 a1_4, .string a1_5, .string a1_6, .int .i64 a1_7, .int .i64 a1_8, .string a1_9, .string a1_10, .string a1_11, .string a1_12, .string a1_13, .string a1_14, (.slice A1_15 l1_15.length c1_15), (.slice A1_16 l1_16.length c1_16), (.slice A1_17 l1_17.length c1_17), .int .i64 a1_18, .int .i64 a1_19, .int .i64 a1_20, .int .i64 a1_21, .int .i64 a1_22, .int .i64 a1_23] 44 (0, 0))) ∧ Aside0 (Below w.heap.size w wc))
 case first =>
  have H := HC4.out
  clear HC4
  replace H := Option.bind_eq_some_iff.mp H
  obtain ⟨t413, A70, H⟩ := H
  replace H : (if t413 = true then ((conf_Plain.f k a0_0 a0_1 a0_2 a0_3 a0_4 a0_5 a0_6 a0_7 a0_8 a0_9 l0_10).bind fun t414 => (gate_Open.j0 k a2 (t414 != 0) a0_0 a0_1 a0_2 a0_3 a0_4 a0_5 a0_6 a0_7 a0_8 a0_9 l0_10 a1_0 a1_1 a1_2 a1_3 a1_4 a1_5 a1_6 a1_7 a1_8 a1_9 a1_10 a1_11 a1_12 a1_13 a1_14 l1_15 l1_16 l1_17 a1_18 a1_19 a1_20 a1_21 a1_22 a1_23)) else (gate_Open.j0 k a2 true a0_0 a0_1 a0_2 a0_3 a0_4 a0_5 a0_6 a0_7 a0_8 a0_9 l0_10 a1_0 a1_1 a1_2 a1_3 a1_4 a1_5 a1_6 a1_7 a1_8 a1_9 a1_10 a1_11 a1_12 a1_13 a1_14 l1_15 l1_16 l1_17 a1_18 a1_19 a1_20 a1_21 a1_22 a1_23)) = some r := H
  have A7 := Aside0.mk A70
  clear A70
  by_cases c8 : t413 = true
  ·subst c8
   have H1 : ((conf_Plain.f k a0_0 a0_1 a0_2 a0_3 a0_4 a0_5 a0_6 a0_7 a0_8 a0_9 l0_10).bind fun t414 => (gate_Open.j0 k a2 (t414 != 0) a0_0 a0_1 a0_2 a0_3 a0_4 a0_5 a0_6 a0_7 a0_8 a0_9 l0_10 a1_0 a1_1 a1_2 a1_3 a1_4 a1_5 a1_6 a1_7 a1_8 a1_9 a1_10 a1_11 a1_12 a1_13 a1_14 l1_15 l1_16 l1_17 a1_18 a1_19 a1_20 a1_21 a1_22 a1_23)) = some r := by rw [if_pos rfl] at H; exact H
   clear H
   have H := H1
   clear H1
   replace H := Option.bind_eq_some_iff.mp H
   obtain ⟨t414, A90, H⟩ := H
   replace H : (gate_Open.j0 k a2 (t414 != 0) a0_0 a0_1 a0_2 a0_3 a0_4 a0_5 a0_6 a0_7 a0_8 a0_9 l0_10 a1_0 a1_1 a1_2 a1_3 a1_4 a1_5 a1_6 a1_7 a1_8 a1_9 a1_10 a1_11 a1_12 a1_13 a1_14 l1_15 l1_16 l1_17 a1_18 a1_19 a1_20 a1_21 a1_22 a1_23) = some r := H
   have A9 := Aside0.mk A90
   clear A90
   have H' := Aside0.mk H
   clear H
   have hnb10 := NB412_411.out
   have hnc10 := NB411_412.out
   have hcz11_0 : w6.cell? ⟨gb412, 0, none⟩ = some (.int .i64 a1_0) := (blk_cell BK412.out 0).trans rfl
   have hcz11_1 : w6.cell? ⟨gb412, 1, none⟩ = some (.int .i64 a1_1) := (blk_cell BK412.out 1).trans rfl
   have hcz11_2 : w6.cell? ⟨gb412, 2, none⟩ = some (.int .i64 a1_2) := (blk_cell BK412.out 2).trans rfl
   have hcz11_3 : w6.cell? ⟨gb412, 3, none⟩ = some (.string a1_3) := (blk_cell BK412.out 3).trans rfl
   have hcz11_4 : w6.cell? ⟨gb412, 4, none⟩ = some (.int .i64 a1_4) := (blk_cell BK412.out 4).trans rfl
   have hcz11_5 : w6.cell? ⟨gb412, 5, none⟩ = some (.string a1_5) := (blk_cell BK412.out 5).trans rfl
   have hcz11_6 : w6.cell? ⟨gb412, 6, none⟩ = some (.string a1_6) := (blk_cell BK412.out 6).trans rfl
   have hcz11_7 : w6.cell? ⟨gb412, 7, none⟩ = some (.int .i64 a1_7) := (blk_cell BK412.out 7).trans rfl
   have hcz11_8 : w6.cell? ⟨gb412, 8, none⟩ = some (.int .i64 a1_8) := (blk_cell BK412.out 8).trans rfl
   have hcz11_9 : w6.cell? ⟨gb412, 9, none⟩ = some (.string a1_9) := (blk_cell BK412.out 9).trans rfl
   have hcz11_10 : w6.cell? ⟨gb412, 10, none⟩ = some (.string a1_10) := (blk_cell BK412.out 10).trans rfl
   have hcz11_11 : w6.cell? ⟨gb412, 11, none⟩ = some (.string a1_11) := (blk_cell BK412.out 11).trans rfl
   have hcz11_12 : w6.cell? ⟨gb412, 12, none⟩ = some (.string a1_12) := (blk_cell BK412.out 12).trans rfl
   have hcz11_13 : w6.cell? ⟨gb412, 13, none⟩ = some (.string a1_13) := (blk_cell BK412.out 13).trans rfl
   have hcz11_14 : w6.cell? ⟨gb412, 14, none⟩ = some (.string a1_14) := (blk_cell BK412.out 14).trans rfl
   have hcz11_15 : w6.cell? ⟨gb412, 15, none⟩ = some (.slice A1_15 l1_15.length c1_15) := (blk_cell BK412.out 15).trans rfl
   have hcz11_16 : w6.cell? ⟨gb412, 16, none⟩ = some (.slice A1_16 l1_16.length c1_16) := (blk_cell BK412.out 16).trans rfl
   have hcz11_17 : w6.cell? ⟨gb412, 17, none⟩ = some (.slice A1_17 l1_17.length c1_17) := (blk_cell BK412.out 17).trans rfl
   have hcz11_18 : w6.cell? ⟨gb412, 18, none⟩ = some (.int .i64 a1_18) := (blk_cell BK412.out 18).trans rfl
   have hcz11_19 : w6.cell? ⟨gb412, 19, none⟩ = some (.int .i64 a1_19) := (blk_cell BK412.out 19).trans rfl
   have hcz11_20 : w6.cell? ⟨gb412, 20, none⟩ = some (.int .i64 a1_20) := (blk_cell BK412.out 20).trans rfl
   have hcz11_21 : w6.cell? ⟨gb412, 21, none⟩ = some (.int .i64 a1_21) := (blk_cell BK412.out 21).trans rfl
   have hcz11_22 : w6.cell? ⟨gb412, 22, none⟩ = some (.int .i64 a1_22) := (blk_cell BK412.out 22).trans rfl
   have hcz11_23 : w6.cell? ⟨gb412, 23, none⟩ = some (.int .i64 a1_23) := (blk_cell BK412.out 23).trans rfl
   have hfz11_0 := blk_frozen BK412.out 0
   have hfz11_1 := blk_frozen BK412.out 1
   have hfz11_2 := blk_frozen BK412.out 2
   have hfz11_3 := blk_frozen BK412.out 3
   have hfz11_4 := blk_frozen BK412.out 4
   have hfz11_5 := blk_frozen BK412.out 5
   have hfz11_6 := blk_frozen BK412.out 6
   have hfz11_7 := blk_frozen BK412.out 7
   have hfz11_8 := blk_frozen BK412.out 8
   have hfz11_9 := blk_frozen BK412.out 9
   have hfz11_10 := blk_frozen BK412.out 10
   have hfz11_11 := blk_frozen BK412.out 11
   have hfz11_12 := blk_frozen BK412.out 12
   have hfz11_13 := blk_frozen BK412.out 13
   have hfz11_14 := blk_frozen BK412.out 14
   have hfz11_15 := blk_frozen BK412.out 15
   have hfz11_16 := blk_frozen BK412.out 16
   have hfz11_17 := blk_frozen BK412.out 17
   have hfz11_18 := blk_frozen BK412.out 18
   have hfz11_19 := blk_frozen BK412.out 19
   have hfz11_20 := blk_frozen BK412.out 20
   have hfz11_21 := blk_frozen BK412.out 21
   have hfz11_22 := blk_frozen BK412.out 22
   have hfz11_23 := blk_frozen BK412.out 23
   go_wp2_with (first | ((with_reducible refine gate_load (t := 44) (x := .tmp 4) rfl ?_); refine load_row_g (cs := ?_) ?hw 44 (.tmp 4) ?h2 gb412 ?hx 44 (fr := (0, 0)) (d := ?_) ?hg ?h3 ?h4 ?hi ?_; (case hw => first | (with_reducible rfl) | (go_simp; done) | rfl); (case h2 => rfl); (case hx => first | (with_reducible rfl) | (go_simp; done) | rfl); (case hg => (with_reducible repeat (first | refine blk_drewN ?_ _ | refine blk_drew ?_ | refine blk_alloc ?_ _)); exact BK412.out); (case h3 => exact Try.underlying44); (case h4 => rfl); (case hi => kernel_rfl)) | ((with_reducible refine gate_callee (f := 47) rfl ?_); refine goesL_ (some 8) rfl rfl Try.func47 (by kernel_rfl) rfl #[.agg #[.int .i64 a1_0, .int .i64 a1_1, .int .i64 a1_2, .string a1_3, .int .i64 a1_4, .string a1_5, .string a1_6, .int .i64 a1_7, .int .i64 a1_8, .string a1_9, .string a1_10, .string a1_11, .string a1_12, .string a1_13, .string a1_14, .slice A1_15 l1_15.length c1_15, .slice A1_16 l1_16.length c1_16, .slice A1_17 l1_17.length c1_17, .int .i64 a1_18, .int .i64 a1_19, .int .i64 a1_20, .int .i64 a1_21, .int .i64 a1_22, .int .i64 a1_23]] rfl (by (try simp only [List.map_toArray, List.map_cons, List.map_nil]); first | done | rfl | (simp only [List.length_drop, List.length_take]; rfl)) ?_; (with_reducible refine (gate_Sync.calls a1_0 a1_1 a1_2 a1_3 a1_4 a1_5 a1_6 a1_7 a1_8 a1_9 a1_10 a1_11 a1_12 a1_13 a1_14 _ _ l1_15 _ _ l1_16 _ _ l1_17 a1_18 a1_19 a1_20 a1_21 a1_22 a1_23 true _ ?side1 ?side2 ?side3 ?side4 ?side5 ?side6 A7.out).mono ?_); (case side1 => repeat (first | exact (Kd.C_below HR1_15.out HB.out) | (with_reducible refine Kd.C_alloc ?_ _) | (with_reducible refine Kd.C_drewN ?_ _) | (with_reducible refine Kd.C_drew ?_))); (case side2 => exact HC1_15.out); (case side3 => repeat (first | exact (Kd.C_below HR1_16.out HB.out) | (with_reducible refine Kd.C_alloc ?_ _) | (with_reducible refine Kd.C_drewN ?_ _) | (with_reducible refine Kd.C_drew ?_))); (case side4 => exact HC1_16.out); (case side5 => repeat (first | exact (Kd.C_below HR1_17.out HB.out) | (with_reducible refine Kd.C_alloc ?_ _) | (with_reducible refine Kd.C_drewN ?_ _) | (with_reducible refine Kd.C_drew ?_))); (case side6 => exact HC1_17.out); rintro e w12 ⟨rfl, hb⟩; refine ⟨_, rfl, ?_⟩; have n0_ := Aside0.mk (blk_below (g := gb411) (o := .cells #[.int .i64 a0_0, .int .i64 a0_1, .int .i64 a0_2, .int .i64 a0_3, .int .i64 a0_4, .int .i64 a0_5, .int .i64 a0_6, .int .i64 a0_7, .int .i64 a0_8, .int .i64 a0_9, .slice A0_10 l0_10.length c0_10] 24 (0, 0)) (by (with_reducible repeat (first | refine blk_drewN ?_ _ | refine blk_drew ?_ | refine blk_alloc ?_ _)); exact BK411.out) hb); have n1_ := Aside0.mk (blk_below (g := gb412) (o := .cells #[.int .i64 a1_0, .int .i64 a1_1, .int .i64 a1_2, .string a1_3, .int .i64 a1_4, .string a1_5, .string a1_6, .int .i64 a1_7, .int .i64 a1_8, .string a1_9, .string a1_10, .string a1_11, .string a1_12, .string a1_13, .string a1_14, .slice A1_15 l1_15.length c1_15, .slice A1_16 l1_16.length c1_16, .slice A1_17 l1_17.length c1_17, .int .i64 a1_18, .int .i64 a1_19, .int .i64 a1_20, .int .i64 a1_21, .int .i64 a1_22, .int .i64 a1_23] 44 (0, 0)) (by (with_reducible repeat (first | refine blk_drewN ?_ _ | refine blk_drew ?_ | refine blk_alloc ?_ _)); exact BK412.out) hb); have n2_ := Aside0.mk (below_step (by repeat (first | (with_reducible first | exact HB.out | apply below_alloc | apply pw_below_drewN | apply below_drew1 | refine below_set ?_ GE411.out | refine below_set ?_ GE412.out) | exact HB.out)) hb); clear BK411; clear BK412; clear HB; have BK411 := n0_; have BK412 := n1_; have HB := n2_; clear n0_ n1_ n2_; (try clear hb); (try clear hb2); (try clear hk); (try clear hi); obtain ⟨hcz13_0, hcz13_1, hcz13_2, hcz13_3, hcz13_4, hcz13_5, hcz13_6, hcz13_7, hcz13_8, hcz13_9, hcz13_10⟩ := cells_11 BK411.out; obtain ⟨hfz13_0, hfz13_1, hfz13_2, hfz13_3, hfz13_4, hfz13_5, hfz13_6, hfz13_7, hfz13_8, hfz13_9, hfz13_10⟩ := frozen_11 BK411.out) | (go_at_call 79; (with_reducible refine (conf_Plain.calls k a0_0 a0_1 a0_2 a0_3 a0_4 a0_5 a0_6 a0_7 a0_8 a0_9 _ _ l0_10 t414 _ ?side1 ?side2 A9.out).mono ?_); (case side1 => repeat (first | exact (Kd.C_below HR0_10.out HB.out) | (with_reducible refine Kd.C_alloc ?_ _) | (with_reducible refine Kd.C_drewN ?_ _) | (with_reducible refine Kd.C_drew ?_))); (case side2 => exact HC0_10.out); rintro e w14 ⟨rfl, hb⟩; have n0_ := Aside0.mk (blk_below (g := gb411) (o := .cells #[.int .i64 a0_0, .int .i64 a0_1, .int .i64 a0_2, .int .i64 a0_3, .int .i64 a0_4, .int .i64 a0_5, .int .i64 a0_6, .int .i64 a0_7, .int .i64 a0_8, .int .i64 a0_9, .slice A0_10 l0_10.length c0_10] 24 (0, 0)) (by (with_reducible repeat (first | refine blk_drewN ?_ _ | refine blk_drew ?_ | refine blk_alloc ?_ _)); exact BK411.out) hb); have n1_ := Aside0.mk (blk_below (g := gb412) (o := .cells #[.int .i64 a1_0, .int .i64 a1_1, .int .i64 a1_2, .string a1_3, .int .i64 a1_4, .string a1_5, .string a1_6, .int .i64 a1_7, .int .i64 a1_8, .string a1_9, .string a1_10, .string a1_11, .string a1_12, .string a1_13, .string a1_14, .slice A1_15 l1_15.length c1_15, .slice A1_16 l1_16.length c1_16, .slice A1_17 l1_17.length c1_17, .int .i64 a1_18, .int .i64 a1_19, .int .i64 a1_20, .int .i64 a1_21, .int .i64 a1_22, .int .i64 a1_23] 44 (0, 0)) (by (with_reducible repeat (first | refine blk_drewN ?_ _ | refine blk_drew ?_ | refine blk_alloc ?_ _)); exact BK412.out) hb); have n2_ := Aside0.mk (below_step (by repeat (first | (with_reducible first | exact HB.out | apply below_alloc | apply pw_below_drewN | apply below_drew1 | refine below_set ?_ GE411.out | refine below_set ?_ GE412.out) | exact HB.out)) hb); clear BK411; clear BK412; clear HB; have BK411 := n0_; have BK412 := n1_; have HB := n2_; clear n0_ n1_ n2_; (try clear hb); (try clear hb2); (try clear hk); (try clear hi)))
   go_meet
   case rel => exact ⟨_, ((t414 != 0)), (by first | rfl | (simp; done) | (simp [*]; done)), H', ⟨by first | omega | exact Nat.le_refl _⟩, ⟨by (with_reducible repeat (first | refine blk_drewN ?_ _ | refine blk_drew ?_ | refine blk_alloc ?_ _)); exact BK411.out⟩, ⟨by (with_reducible repeat (first | refine blk_drewN ?_ _ | refine blk_drew ?_ | refine blk_alloc ?_ _)); exact BK412.out⟩, ⟨by repeat (first | (with_reducible first | exact HB.out | apply below_alloc | apply pw_below_drewN | apply below_drew1 | refine below_set ?_ GE411.out | refine below_set ?_ GE412.out) | exact HB.out)⟩⟩
  ·replace c8 := Bool.eq_false_iff.mpr c8
   subst c8
   have H1 : (gate_Open.j0 k a2 true a0_0 a0_1 a0_2 a0_3 a0_4 a0_5 a0_6 a0_7 a0_8 a0_9 l0_10 a1_0 a1_1 a1_2 a1_3 a1_4 a1_5 a1_6 a1_7 a1_8 a1_9 a1_10 a1_11 a1_12 a1_13 a1_14 l1_15 l1_16 l1_17 a1_18 a1_19 a1_20 a1_21 a1_22 a1_23) = some r := by rw [if_neg (show ¬ (false = true) by decide)] at H; exact H
   clear H
   have H := H1
   clear H1
   have H' := Aside0.mk H
   clear H
   have hnb15 := NB412_411.out
   have hnc15 := NB411_412.out
   have hcz16_0 : w6.cell? ⟨gb412, 0, none⟩ = some (.int .i64 a1_0) := (blk_cell BK412.out 0).trans rfl
   have hcz16_1 : w6.cell? ⟨gb412, 1, none⟩ = some (.int .i64 a1_1) := (blk_cell BK412.out 1).trans rfl
   have hcz16_2 : w6.cell? ⟨gb412, 2, none⟩ = some (.int .i64 a1_2) := (blk_cell BK412.out 2).trans rfl
   have hcz16_3 : w6.cell? ⟨gb412, 3, none⟩ = some (.string a1_3) := (blk_cell BK412.out 3).trans rfl
   have hcz16_4 : w6.cell? ⟨gb412, 4, none⟩ = some (.int .i64 a1_4) := (blk_cell BK412.out 4).trans rfl
   have hcz16_5 : w6.cell? ⟨gb412, 5, none⟩ = some (.string a1_5) := (blk_cell BK412.out 5).trans rfl
   have hcz16_6 : w6.cell? ⟨gb412, 6, none⟩ = some (.string a1_6) := (blk_cell BK412.out 6).trans rfl
   have hcz16_7 : w6.cell? ⟨gb412, 7, none⟩ = some (.int .i64 a1_7) := (blk_cell BK412.out 7).trans rfl
   have hcz16_8 : w6.cell? ⟨gb412, 8, none⟩ = some (.int .i64 a1_8) := (blk_cell BK412.out 8).trans rfl
   have hcz16_9 : w6.cell? ⟨gb412, 9, none⟩ = some (.string a1_9) := (blk_cell BK412.out 9).trans rfl
   have hcz16_10 : w6.cell? ⟨gb412, 10, none⟩ = some (.string a1_10) := (blk_cell BK412.out 10).trans rfl
   have hcz16_11 : w6.cell? ⟨gb412, 11, none⟩ = some (.string a1_11) := (blk_cell BK412.out 11).trans rfl
   have hcz16_12 : w6.cell? ⟨gb412, 12, none⟩ = some (.string a1_12) := (blk_cell BK412.out 12).trans rfl
   have hcz16_13 : w6.cell? ⟨gb412, 13, none⟩ = some (.string a1_13) := (blk_cell BK412.out 13).trans rfl
   have hcz16_14 : w6.cell? ⟨gb412, 14, none⟩ = some (.string a1_14) := (blk_cell BK412.out 14).trans rfl
   have hcz16_15 : w6.cell? ⟨gb412, 15, none⟩ = some (.slice A1_15 l1_15.length c1_15) := (blk_cell BK412.out 15).trans rfl
   have hcz16_16 : w6.cell? ⟨gb412, 16, none⟩ = some (.slice A1_16 l1_16.length c1_16) := (blk_cell BK412.out 16).trans rfl
   have hcz16_17 : w6.cell? ⟨gb412, 17, none⟩ = some (.slice A1_17 l1_17.length c1_17) := (blk_cell BK412.out 17).trans rfl
   have hcz16_18 : w6.cell? ⟨gb412, 18, none⟩ = some (.int .i64 a1_18) := (blk_cell BK412.out 18).trans rfl
   have hcz16_19 : w6.cell? ⟨gb412, 19, none⟩ = some (.int .i64 a1_19) := (blk_cell BK412.out 19).trans rfl
   have hcz16_20 : w6.cell? ⟨gb412, 20, none⟩ = some (.int .i64 a1_20) := (blk_cell BK412.out 20).trans rfl
   have hcz16_21 : w6.cell? ⟨gb412, 21, none⟩ = some (.int .i64 a1_21) := (blk_cell BK412.out 21).trans rfl
   have hcz16_22 : w6.cell? ⟨gb412, 22, none⟩ = some (.int .i64 a1_22) := (blk_cell BK412.out 22).trans rfl
   have hcz16_23 : w6.cell? ⟨gb412, 23, none⟩ = some (.int .i64 a1_23) := (blk_cell BK412.out 23).trans rfl
   have hfz16_0 := blk_frozen BK412.out 0
   have hfz16_1 := blk_frozen BK412.out 1
   have hfz16_2 := blk_frozen BK412.out 2
   have hfz16_3 := blk_frozen BK412.out 3
   have hfz16_4 := blk_frozen BK412.out 4
   have hfz16_5 := blk_frozen BK412.out 5
   have hfz16_6 := blk_frozen BK412.out 6
   have hfz16_7 := blk_frozen BK412.out 7
   have hfz16_8 := blk_frozen BK412.out 8
   have hfz16_9 := blk_frozen BK412.out 9
   have hfz16_10 := blk_frozen BK412.out 10
   have hfz16_11 := blk_frozen BK412.out 11
   have hfz16_12 := blk_frozen BK412.out 12
   have hfz16_13 := blk_frozen BK412.out 13
   have hfz16_14 := blk_frozen BK412.out 14
   have hfz16_15 := blk_frozen BK412.out 15
   have hfz16_16 := blk_frozen BK412.out 16
   have hfz16_17 := blk_frozen BK412.out 17
   have hfz16_18 := blk_frozen BK412.out 18
   have hfz16_19 := blk_frozen BK412.out 19
   have hfz16_20 := blk_frozen BK412.out 20
   have hfz16_21 := blk_frozen BK412.out 21
   have hfz16_22 := blk_frozen BK412.out 22
   have hfz16_23 := blk_frozen BK412.out 23
   go_wp2_with (first | ((with_reducible refine gate_load (t := 44) (x := .tmp 4) rfl ?_); refine load_row_g (cs := ?_) ?hw 44 (.tmp 4) ?h2 gb412 ?hx 44 (fr := (0, 0)) (d := ?_) ?hg ?h3 ?h4 ?hi ?_; (case hw => first | (with_reducible rfl) | (go_simp; done) | rfl); (case h2 => rfl); (case hx => first | (with_reducible rfl) | (go_simp; done) | rfl); (case hg => (with_reducible repeat (first | refine blk_drewN ?_ _ | refine blk_drew ?_ | refine blk_alloc ?_ _)); exact BK412.out); (case h3 => exact Try.underlying44); (case h4 => rfl); (case hi => kernel_rfl)) | ((with_reducible refine gate_callee (f := 47) rfl ?_); refine goesL_ (some 8) rfl rfl Try.func47 (by kernel_rfl) rfl #[.agg #[.int .i64 a1_0, .int .i64 a1_1, .int .i64 a1_2, .string a1_3, .int .i64 a1_4, .string a1_5, .string a1_6, .int .i64 a1_7, .int .i64 a1_8, .string a1_9, .string a1_10, .string a1_11, .string a1_12, .string a1_13, .string a1_14, .slice A1_15 l1_15.length c1_15, .slice A1_16 l1_16.length c1_16, .slice A1_17 l1_17.length c1_17, .int .i64 a1_18, .int .i64 a1_19, .int .i64 a1_20, .int .i64 a1_21, .int .i64 a1_22, .int .i64 a1_23]] rfl (by (try simp only [List.map_toArray, List.map_cons, List.map_nil]); first | done | rfl | (simp only [List.length_drop, List.length_take]; rfl)) ?_; (with_reducible refine (gate_Sync.calls a1_0 a1_1 a1_2 a1_3 a1_4 a1_5 a1_6 a1_7 a1_8 a1_9 a1_10 a1_11 a1_12 a1_13 a1_14 _ _ l1_15 _ _ l1_16 _ _ l1_17 a1_18 a1_19 a1_20 a1_21 a1_22 a1_23 false _ ?side1 ?side2 ?side3 ?side4 ?side5 ?side6 A7.out).mono ?_); (case side1 => repeat (first | exact (Kd.C_below HR1_15.out HB.out) | (with_reducible refine Kd.C_alloc ?_ _) | (with_reducible refine Kd.C_drewN ?_ _) | (with_reducible refine Kd.C_drew ?_))); (case side2 => exact HC1_15.out); (case side3 => repeat (first | exact (Kd.C_below HR1_16.out HB.out) | (with_reducible refine Kd.C_alloc ?_ _) | (with_reducible refine Kd.C_drewN ?_ _) | (with_reducible refine Kd.C_drew ?_))); (case side4 => exact HC1_16.out); (case side5 => repeat (first | exact (Kd.C_below HR1_17.out HB.out) | (with_reducible refine Kd.C_alloc ?_ _) | (with_reducible refine Kd.C_drewN ?_ _) | (with_reducible refine Kd.C_drew ?_))); (case side6 => exact HC1_17.out); rintro e w17 ⟨rfl, hb⟩; refine ⟨_, rfl, ?_⟩; have n0_ := Aside0.mk (blk_below (g := gb411) (o := .cells #[.int .i64 a0_0, .int .i64 a0_1, .int .i64 a0_2, .int .i64 a0_3, .int .i64 a0_4, .int .i64 a0_5, .int .i64 a0_6, .int .i64 a0_7, .int .i64 a0_8, .int .i64 a0_9, .slice A0_10 l0_10.length c0_10] 24 (0, 0)) (by (with_reducible repeat (first | refine blk_drewN ?_ _ | refine blk_drew ?_ | refine blk_alloc ?_ _)); exact BK411.out) hb); have n1_ := Aside0.mk (blk_below (g := gb412) (o := .cells #[.int .i64 a1_0, .int .i64 a1_1, .int .i64 a1_2, .string a1_3, .int .i64 a1_4, .string a1_5, .string a1_6, .int .i64 a1_7, .int .i64 a1_8, .string a1_9, .string a1_10, .string a1_11, .string a1_12, .string a1_13, .string a1_14, .slice A1_15 l1_15.length c1_15, .slice A1_16 l1_16.length c1_16, .slice A1_17 l1_17.length c1_17, .int .i64 a1_18, .int .i64 a1_19, .int .i64 a1_20, .int .i64 a1_21, .int .i64 a1_22, .int .i64 a1_23] 44 (0, 0)) (by (with_reducible repeat (first | refine blk_drewN ?_ _ | refine blk_drew ?_ | refine blk_alloc ?_ _)); exact BK412.out) hb); have n2_ := Aside0.mk (below_step (by repeat (first | (with_reducible first | exact HB.out | apply below_alloc | apply pw_below_drewN | apply below_drew1 | refine below_set ?_ GE411.out | refine below_set ?_ GE412.out) | exact HB.out)) hb); clear BK411; clear BK412; clear HB; have BK411 := n0_; have BK412 := n1_; have HB := n2_; clear n0_ n1_ n2_; (try clear hb); (try clear hb2); (try clear hk); (try clear hi)))
   go_meet
   case rel => exact ⟨_, (true), (by first | rfl | (simp; done) | (simp [*]; done)), H', ⟨by first | omega | exact Nat.le_refl _⟩, ⟨by (with_reducible repeat (first | refine blk_drewN ?_ _ | refine blk_drew ?_ | refine blk_alloc ?_ _)); exact BK411.out⟩, ⟨by (with_reducible repeat (first | refine blk_drewN ?_ _ | refine blk_drew ?_ | refine blk_alloc ?_ _)); exact BK412.out⟩, ⟨by repeat (first | (with_reducible first | exact HB.out | apply below_alloc | apply pw_below_drewN | apply below_drew1 | refine below_set ?_ GE411.out | refine below_set ?_ GE412.out) | exact HB.out)⟩⟩
 case rest =>
  clear HC4
  try clear c1
  try clear p2
  try clear c4
  try clear c5
  try clear c8
  try clear c10
  try clear c15
  try clear hcz11_0
  try clear hcz11_1
  try clear hcz11_10
  try clear hcz11_11
  try clear hcz11_12
  try clear hcz11_13
  try clear hcz11_14
  try clear hcz11_15
  try clear hcz11_16
  try clear hcz11_17
  try clear hcz11_18
  try clear hcz11_19
  try clear hcz11_2
  try clear hcz11_20
  try clear hcz11_21
  try clear hcz11_22
  try clear hcz11_23
  try clear hcz11_3
  try clear hcz11_4
  try clear hcz11_5
  try clear hcz11_6
  try clear hcz11_7
  try clear hcz11_8
  try clear hcz11_9
  try clear hcz13_0
  try clear hcz13_1
  try clear hcz13_10
  try clear hcz13_2
  try clear hcz13_3
  try clear hcz13_4
  try clear hcz13_5
  try clear hcz13_6
  try clear hcz13_7
  try clear hcz13_8
  try clear hcz13_9
  try clear hcz16_0
  try clear hcz16_1
  try clear hcz16_10
  try clear hcz16_11
  try clear hcz16_12
  try clear hcz16_13
  try clear hcz16_14
  try clear hcz16_15
  try clear hcz16_16
  try clear hcz16_17
  try clear hcz16_18
  try clear hcz16_19
  try clear hcz16_2
  try clear hcz16_20
  try clear hcz16_21
  try clear hcz16_22
  try clear hcz16_23
  try clear hcz16_3
  try clear hcz16_4
  try clear hcz16_5
  try clear hcz16_6
  try clear hcz16_7
  try clear hcz16_8
  try clear hcz16_9
  try clear hfz11_0
  try clear hfz11_1
  try clear hfz11_10
  try clear hfz11_11
  try clear hfz11_12
  try clear hfz11_13
  try clear hfz11_14
  try clear hfz11_15
  try clear hfz11_16
  try clear hfz11_17
  try clear hfz11_18
  try clear hfz11_19
  try clear hfz11_2
  try clear hfz11_20
  try clear hfz11_21
  try clear hfz11_22
  try clear hfz11_23
  try clear hfz11_3
  try clear hfz11_4
  try clear hfz11_5
  try clear hfz11_6
  try clear hfz11_7
  try clear hfz11_8
  try clear hfz11_9
  try clear hfz13_0
  try clear hfz13_1
  try clear hfz13_10
  try clear hfz13_2
  try clear hfz13_3
  try clear hfz13_4
  try clear hfz13_5
  try clear hfz13_6
  try clear hfz13_7
  try clear hfz13_8
  try clear hfz13_9
  try clear hfz16_0
  try clear hfz16_1
  try clear hfz16_10
  try clear hfz16_11
  try clear hfz16_12
  try clear hfz16_13
  try clear hfz16_14
  try clear hfz16_15
  try clear hfz16_16
  try clear hfz16_17
  try clear hfz16_18
  try clear hfz16_19
  try clear hfz16_2
  try clear hfz16_20
  try clear hfz16_21
  try clear hfz16_22
  try clear hfz16_23
  try clear hfz16_3
  try clear hfz16_4
  try clear hfz16_5
  try clear hfz16_6
  try clear hfz16_7
  try clear hfz16_8
  try clear hfz16_9
  obtain ⟨kq, x14_3, rfl, HA, HJ3, BK411, BK412, HB⟩ := hcut
  cases kq with
  | zero => exact absurd HA.out (by simp [gate_Open.j0])
  | succ kj3 =>
   have H := HA.out
   clear HA
   simp only [gate_Open.j0] at H
   by_cases c18 : x14_3 = true
   ·subst c18
    have H1 : (some (-1)) = some r := by rw [if_pos rfl] at H; exact H
    clear H
    have H := H1
    clear H1
    obtain rfl := Option.some.inj H
    go_wp2
    go_ret
    exact ⟨by first | rfl | (simp [errW_none, errW_some] <;> rfl) | (simp [*, errW_none, errW_some] <;> rfl), by repeat (first | (with_reducible first | exact HB.out | apply below_alloc | apply pw_below_drewN | apply below_drew1 | refine below_set ?_ GE411.out | refine below_set ?_ GE412.out) | exact HB.out)⟩
   ·replace c18 := Bool.eq_false_iff.mpr c18
    subst c18
    have H1 : ((slot_Elapsed.f a1_0 a1_1).bind fun t415 => ((sched_Due.f kj3 a0_0 a0_1 a0_2 a0_3 a0_4 a0_5 a0_6 a0_7 a0_8 a0_9 l0_10 a2 t415 a1_12).bind fun t416 => (some t416))) = some r := by rw [if_neg (show ¬ (false = true) by decide)] at H; exact H
    clear H
    have H := H1
    clear H1
    replace H := Option.bind_eq_some_iff.mp H
    obtain ⟨t415, A190, H⟩ := H
    replace H : ((sched_Due.f kj3 a0_0 a0_1 a0_2 a0_3 a0_4 a0_5 a0_6 a0_7 a0_8 a0_9 l0_10 a2 t415 a1_12).bind fun t416 => (some t416)) = some r := H
    have A19 := Aside0.mk A190
    clear A190
    replace H := Option.bind_eq_some_iff.mp H
    obtain ⟨t416, A200, H⟩ := H
    replace H : (some t416) = some r := H
    have A20 := Aside0.mk A200
    clear A200
    obtain rfl := Option.some.inj H
    try go_wp2
    have n0_ := Aside0.mk (blk_drew BK411.out)
    have n1_ := Aside0.mk (blk_drew BK412.out)
    have n2_ := Aside0.mk (below_drew1 HB.out)
    clear BK411
    clear BK412
    clear HB
    have BK411 := n0_
    have BK412 := n1_
    have HB := n2_
    clear n0_ n1_ n2_
    refine start_ (n := 11) (S := fun w' => w'.cell? ⟨gb411, 0, none⟩ = some (.int .i64 a0_0) ∧ w'.cell? ⟨gb411, 1, none⟩ = some (.int .i64 a0_1) ∧ w'.cell? ⟨gb411, 2, none⟩ = some (.int .i64 a0_2) ∧ w'.cell? ⟨gb411, 3, none⟩ = some (.int .i64 a0_3) ∧ w'.cell? ⟨gb411, 4, none⟩ = some (.int .i64 a0_4) ∧ w'.cell? ⟨gb411, 5, none⟩ = some (.int .i64 a0_5) ∧ w'.cell? ⟨gb411, 6, none⟩ = some (.int .i64 a0_6) ∧ w'.cell? ⟨gb411, 7, none⟩ = some (.int .i64 a0_7) ∧ w'.cell? ⟨gb411, 8, none⟩ = some (.int .i64 a0_8) ∧ w'.cell? ⟨gb411, 9, none⟩ = some (.int .i64 a0_9) ∧ w'.cell? ⟨gb411, 10, none⟩ = some (.slice A0_10 l0_10.length c0_10) ∧ w'.cell? ⟨gb412, 0, none⟩ = some (.int .i64 a1_0) ∧ w'.cell? ⟨gb412, 1, none⟩ = some (.int .i64 a1_1) ∧ w'.cell? ⟨gb412, 2, none⟩ = some (.int .i64 a1_2) ∧ w'.cell? ⟨gb412, 3, none⟩ = some (.string a1_3) ∧ w'.cell? ⟨gb412, 4, none⟩ = some (.int .i64 a1_4) ∧ w'.cell? ⟨gb412, 5, none⟩ = some (.string a1_5) ∧ w'.cell? ⟨gb412, 6, none⟩ = some (.string a1_6) ∧ w'.cell? ⟨gb412, 7, none⟩ = some (.int .i64 a1_7) ∧ w'.cell? ⟨gb412, 8, none⟩ = some (.int .i64 a1_8) ∧ w'.cell? ⟨gb412, 9, none⟩ = some (.string a1_9) ∧ w'.cell? ⟨gb412, 10, none⟩ = some (.string a1_10) ∧ w'.cell? ⟨gb412, 11, none⟩ = some (.string a1_11) ∧ w'.cell? ⟨gb412, 12, none⟩ = some (.string a1_12) ∧ w'.cell? ⟨gb412, 13, none⟩ = some (.string a1_13) ∧ w'.cell? ⟨gb412, 14, none⟩ = some (.string a1_14) ∧ w'.cell? ⟨gb412, 15, none⟩ = some (.slice A1_15 l1_15.length c1_15) ∧ w'.cell? ⟨gb412, 16, none⟩ = some (.slice A1_16 l1_16.length c1_16) ∧ w'.cell? ⟨gb412, 17, none⟩ = some (.slice A1_17 l1_17.length c1_17) ∧ w'.cell? ⟨gb412, 18, none⟩ = some (.int .i64 a1_18) ∧ w'.cell? ⟨gb412, 19, none⟩ = some (.int .i64 a1_19) ∧ w'.cell? ⟨gb412, 20, none⟩ = some (.int .i64 a1_20) ∧ w'.cell? ⟨gb412, 21, none⟩ = some (.int .i64 a1_21) ∧ w'.cell? ⟨gb412, 22, none⟩ = some (.int .i64 a1_22) ∧ w'.cell? ⟨gb412, 23, none⟩ = some (.int .i64 a1_23)) (ds := []) #[false, false, false, false, false, false, false, false, false, false, false] (by kernel_rfl) rfl rfl ⟨(blk_cell BK411.out 0).trans rfl, (blk_cell BK411.out 1).trans rfl, (blk_cell BK411.out 2).trans rfl, (blk_cell BK411.out 3).trans rfl, (blk_cell BK411.out 4).trans rfl, (blk_cell BK411.out 5).trans rfl, (blk_cell BK411.out 6).trans rfl, (blk_cell BK411.out 7).trans rfl, (blk_cell BK411.out 8).trans rfl, (blk_cell BK411.out 9).trans rfl, (blk_cell BK411.out 10).trans rfl, (blk_cell BK412.out 0).trans rfl, (blk_cell BK412.out 1).trans rfl, (blk_cell BK412.out 2).trans rfl, (blk_cell BK412.out 3).trans rfl, (blk_cell BK412.out 4).trans rfl, (blk_cell BK412.out 5).trans rfl, (blk_cell BK412.out 6).trans rfl, (blk_cell BK412.out 7).trans rfl, (blk_cell BK412.out 8).trans rfl, (blk_cell BK412.out 9).trans rfl, (blk_cell BK412.out 10).trans rfl, (blk_cell BK412.out 11).trans rfl, (blk_cell BK412.out 12).trans rfl, (blk_cell BK412.out 13).trans rfl, (blk_cell BK412.out 14).trans rfl, (blk_cell BK412.out 15).trans rfl, (blk_cell BK412.out 16).trans rfl, (blk_cell BK412.out 17).trans rfl, (blk_cell BK412.out 18).trans rfl, (blk_cell BK412.out 19).trans rfl, (blk_cell BK412.out 20).trans rfl, (blk_cell BK412.out 21).trans rfl, (blk_cell BK412.out 22).trans rfl, (blk_cell BK412.out 23).trans rfl⟩ (fun hHeld => ?_); refine with_tabW gate_Open.tab3 gate_Open.bits3 (fun HT_ HW_ => ?_)
    generalize wc.drew = w21 at BK411 BK412 HB hHeld ⊢
    refine pure_ (i := 1) (N := some 16) (v := ?_) (a' := ?_) #[false, true, false, false, false, false, false, false, false, false, false] rfl rfl (any_of HT_.out (by kernel_rfl)) (fun _ _ _ h => h) (Or.inl ⟨by rfl, ?_⟩) ?_ ?_
    rotate_left
    ·intro w'
     go_simp
     with_reducible rfl
    rotate_left
    ·simp only [Act.put, List.setIfInBounds_toArray, List.set_cons_zero, List.set_cons_succ, i64_w, i32_w]
     rfl
    refine pure_ (i := 2) (N := some 17) (v := ?_) (a' := ?_) #[false, true, true, false, false, false, false, false, false, false, false] rfl rfl (any_of HT_.out (by kernel_rfl)) (fun _ _ _ h => h) (Or.inl ⟨by rfl, ?_⟩) ?_ ?_
    rotate_left
    ·intro w'
     go_simp
     with_reducible rfl
    rotate_left
    ·simp only [Act.put, List.setIfInBounds_toArray, List.set_cons_zero, List.set_cons_succ, i64_w, i32_w]
     rfl
    refine pure_ (i := 4) (N := some 19) (v := ?_) (a' := ?_) #[false, true, true, false, true, false, false, false, false, false, false] rfl rfl (any_of HT_.out (by kernel_rfl)) (fun _ _ _ h => h) (Or.inl ⟨by rfl, ?_⟩) ?_ ?_
    rotate_left
    ·intro w'
     go_simp
     with_reducible rfl
    rotate_left
    ·simp only [Act.put, List.setIfInBounds_toArray, List.set_cons_zero, List.set_cons_succ, i64_w, i32_w]
     rfl
    refine pure_ (i := 7) (N := some 22) (v := ?_) (a' := ?_) #[false, true, true, false, true, false, false, true, false, false, false] rfl rfl (any_of HT_.out (by kernel_rfl)) (fun _ _ _ h => h) (Or.inl ⟨by rfl, ?_⟩) ?_ ?_
    rotate_left
    ·intro w'
     go_simp
     with_reducible rfl
    rotate_left
    ·simp only [Act.put, List.setIfInBounds_toArray, List.set_cons_zero, List.set_cons_succ, i64_w, i32_w]
     rfl
    refine take_ (i := 0) (N := some 15) (v := ?_) (a' := ?_) #[true, true, true, false, true, false, false, true, false, false, false] rfl rfl (take_ofW HT_.out HW_.out (by kernel_rfl)) (fun _ _ _ h => h) (Or.inl ⟨by rfl, ?_⟩) hHeld ?_ ?_
    rotate_left
    ·rintro w' ⟨s0, s1, s2, s3, s4, s5, s6, s7, s8, s9, s10, s11, s12, s13, s14, s15, s16, s17, s18, s19, s20, s21, s22, s23, s24, s25, s26, s27, s28, s29, s30, s31, s32, s33, s34⟩
     (first | (refine load_cells_24 (ty := 44) (x := .tmp 4) (g := gb412) ?hlo_ ?hx_ Try.underlying44 ?hd_ ?hi_ s11 s12 s13 s14 s15 s16 s17 s18 s19 s20 s21 s22 s23 s24 s25 s26 s27 s28 s29 s30 s31 s32 s33 s34; (case hlo_ => rfl); (case hx_ => rfl); (case hd_ => rfl); (case hi_ => kernel_rfl)) | (go_simp; with_reducible rfl))
    rotate_left
    ·simp only [Act.put, List.setIfInBounds_toArray, List.set_cons_zero, List.set_cons_succ, i64_w, i32_w]
     rfl
    refine take_ (i := 3) (N := some 18) (v := ?_) (a' := ?_) #[true, true, true, true, true, false, false, true, false, false, false] rfl rfl (take_ofW HT_.out HW_.out (by kernel_rfl)) (fun _ _ _ h => h) (Or.inl ⟨by rfl, ?_⟩) hHeld ?_ ?_
    rotate_left
    ·rintro w' ⟨s0, s1, s2, s3, s4, s5, s6, s7, s8, s9, s10, s11, s12, s13, s14, s15, s16, s17, s18, s19, s20, s21, s22, s23, s24, s25, s26, s27, s28, s29, s30, s31, s32, s33, s34⟩
     (first | (refine load_cells_24 (ty := 44) (x := .tmp 4) (g := gb412) ?hlo_ ?hx_ Try.underlying44 ?hd_ ?hi_ s11 s12 s13 s14 s15 s16 s17 s18 s19 s20 s21 s22 s23 s24 s25 s26 s27 s28 s29 s30 s31 s32 s33 s34; (case hlo_ => rfl); (case hx_ => rfl); (case hd_ => rfl); (case hi_ => kernel_rfl)) | (go_simp; with_reducible rfl))
    rotate_left
    ·simp only [Act.put, List.setIfInBounds_toArray, List.set_cons_zero, List.set_cons_succ, i64_w, i32_w]
     rfl
    refine take_ (i := 5) (N := some 20) (v := ?_) (a' := ?_) #[true, true, true, true, true, true, false, true, false, false, false] rfl rfl (take_ofW HT_.out HW_.out (by kernel_rfl)) (fun _ _ _ h => h) (Or.inl ⟨by rfl, ?_⟩) hHeld ?_ ?_
    rotate_left
    ·rintro w' ⟨s0, s1, s2, s3, s4, s5, s6, s7, s8, s9, s10, s11, s12, s13, s14, s15, s16, s17, s18, s19, s20, s21, s22, s23, s24, s25, s26, s27, s28, s29, s30, s31, s32, s33, s34⟩
     (first | (refine load_cells_24 (ty := 44) (x := .tmp 4) (g := gb412) ?hlo_ ?hx_ Try.underlying44 ?hd_ ?hi_ s11 s12 s13 s14 s15 s16 s17 s18 s19 s20 s21 s22 s23 s24 s25 s26 s27 s28 s29 s30 s31 s32 s33 s34; (case hlo_ => rfl); (case hx_ => rfl); (case hd_ => rfl); (case hi_ => kernel_rfl)) | (go_simp; with_reducible rfl))
    rotate_left
    ·simp only [Act.put, List.setIfInBounds_toArray, List.set_cons_zero, List.set_cons_succ, i64_w, i32_w]
     rfl
    refine take_ (i := 8) (N := some 23) (v := ?_) (a' := ?_) #[true, true, true, true, true, true, false, true, true, false, false] rfl rfl (take_ofW HT_.out HW_.out (by kernel_rfl)) (fun _ _ _ h => h) (Or.inl ⟨by rfl, ?_⟩) hHeld ?_ ?_
    rotate_left
    ·rintro w' ⟨s0, s1, s2, s3, s4, s5, s6, s7, s8, s9, s10, s11, s12, s13, s14, s15, s16, s17, s18, s19, s20, s21, s22, s23, s24, s25, s26, s27, s28, s29, s30, s31, s32, s33, s34⟩
     (first | (refine load_cells_24 (ty := 44) (x := .tmp 4) (g := gb412) ?hlo_ ?hx_ Try.underlying44 ?hd_ ?hi_ s11 s12 s13 s14 s15 s16 s17 s18 s19 s20 s21 s22 s23 s24 s25 s26 s27 s28 s29 s30 s31 s32 s33 s34; (case hlo_ => rfl); (case hx_ => rfl); (case hd_ => rfl); (case hi_ => kernel_rfl)) | (go_simp; with_reducible rfl))
    rotate_left
    ·simp only [Act.put, List.setIfInBounds_toArray, List.set_cons_zero, List.set_cons_succ, i64_w, i32_w]
     rfl
    refine one_ (i := 6) (N := some 21) #[true, true, true, true, true, true, true, true, true, false, false] rfl rfl (one_of HT_.out (by kernel_rfl)) (by decide) (fun K hK => ?_)
    refine goes_ Try.func53 (by kernel_rfl) rfl #[.int .i64 a1_0, .int .i64 a1_1] (by rfl) rfl rfl (by (try simp only [List.map_toArray, List.map_cons, List.map_nil]); first | done | rfl | (simp only [List.length_drop, List.length_take]; rfl)) ?_
    with_reducible refine (slot_Elapsed.calls a1_0 a1_1 t415 _ A19.out).mono ?_
    rintro e w' ⟨rfl, ⟨nd, rfl⟩⟩
    refine ⟨_, rfl, ?_⟩
    refine hK.out _ _ ⟨(blk_cell BK411.out 0).trans rfl, (blk_cell BK411.out 1).trans rfl, (blk_cell BK411.out 2).trans rfl, (blk_cell BK411.out 3).trans rfl, (blk_cell BK411.out 4).trans rfl, (blk_cell BK411.out 5).trans rfl, (blk_cell BK411.out 6).trans rfl, (blk_cell BK411.out 7).trans rfl, (blk_cell BK411.out 8).trans rfl, (blk_cell BK411.out 9).trans rfl, (blk_cell BK411.out 10).trans rfl, (blk_cell BK412.out 0).trans rfl, (blk_cell BK412.out 1).trans rfl, (blk_cell BK412.out 2).trans rfl, (blk_cell BK412.out 3).trans rfl, (blk_cell BK412.out 4).trans rfl, (blk_cell BK412.out 5).trans rfl, (blk_cell BK412.out 6).trans rfl, (blk_cell BK412.out 7).trans rfl, (blk_cell BK412.out 8).trans rfl, (blk_cell BK412.out 9).trans rfl, (blk_cell BK412.out 10).trans rfl, (blk_cell BK412.out 11).trans rfl, (blk_cell BK412.out 12).trans rfl, (blk_cell BK412.out 13).trans rfl, (blk_cell BK412.out 14).trans rfl, (blk_cell BK412.out 15).trans rfl, (blk_cell BK412.out 16).trans rfl, (blk_cell BK412.out 17).trans rfl, (blk_cell BK412.out 18).trans rfl, (blk_cell BK412.out 19).trans rfl, (blk_cell BK412.out 20).trans rfl, (blk_cell BK412.out 21).trans rfl, (blk_cell BK412.out 22).trans rfl, (blk_cell BK412.out 23).trans rfl⟩ (fun hHeld => ?_)
    clear hK K
    refine norm_ (a' := ?_) ?_ ?_
    rotate_left
    ·show Act.put _ (some 21) _ = _
     simp only [Act.put, List.setIfInBounds_toArray, List.set_cons_zero, List.set_cons_succ, i64_w, i32_w]
     rfl
    refine one_ (i := 9) (N := some 24) #[true, true, true, true, true, true, true, true, true, true, false] rfl rfl (one_of HT_.out (by kernel_rfl)) (by decide) (fun K hK => ?_)
    refine goes_ Try.func91 (by kernel_rfl) rfl #[.agg #[.int .i64 a0_0, .int .i64 a0_1, .int .i64 a0_2, .int .i64 a0_3, .int .i64 a0_4, .int .i64 a0_5, .int .i64 a0_6, .int .i64 a0_7, .int .i64 a0_8, .int .i64 a0_9, .slice A0_10 l0_10.length c0_10], .int .i64 a2, .int .i64 t415, .string a1_12] (by rfl) rfl rfl (by (try simp only [List.map_toArray, List.map_cons, List.map_nil]); first | done | rfl | (simp only [List.length_drop, List.length_take]; rfl)) ?_
    with_reducible refine (sched_Due.calls kj3 a0_0 a0_1 a0_2 a0_3 a0_4 a0_5 a0_6 a0_7 a0_8 a0_9 _ _ l0_10 a2 t415 a1_12 t416 _ ?side1 ?side2 A20.out).mono ?_
    (case side1 => repeat (first | exact (Kd.C_below HR0_10.out (by repeat (first | (with_reducible first | exact HB.out | apply below_alloc | apply pw_below_drewN | apply below_drew1 | refine below_set ?_ GE411.out | refine below_set ?_ GE412.out) | exact HB.out))) | (with_reducible refine Kd.C_alloc ?_ _) | (with_reducible refine Kd.C_drewN ?_ _) | (with_reducible refine Kd.C_drew ?_)))
    (case side2 => exact HC0_10.out)
    rintro e w22 ⟨rfl, hb⟩
    refine ⟨_, rfl, ?_⟩
    have n0_ := Aside0.mk (blk_below (g := gb411) (o := .cells #[.int .i64 a0_0, .int .i64 a0_1, .int .i64 a0_2, .int .i64 a0_3, .int .i64 a0_4, .int .i64 a0_5, .int .i64 a0_6, .int .i64 a0_7, .int .i64 a0_8, .int .i64 a0_9, .slice A0_10 l0_10.length c0_10] 24 (0, 0)) (by (with_reducible repeat (first | refine blk_drewN ?_ _ | refine blk_drew ?_ | refine blk_alloc ?_ _)); exact BK411.out) hb)
    have n1_ := Aside0.mk (blk_below (g := gb412) (o := .cells #[.int .i64 a1_0, .int .i64 a1_1, .int .i64 a1_2, .string a1_3, .int .i64 a1_4, .string a1_5, .string a1_6, .int .i64 a1_7, .int .i64 a1_8, .string a1_9, .string a1_10, .string a1_11, .string a1_12, .string a1_13, .string a1_14, .slice A1_15 l1_15.length c1_15, .slice A1_16 l1_16.length c1_16, .slice A1_17 l1_17.length c1_17, .int .i64 a1_18, .int .i64 a1_19, .int .i64 a1_20, .int .i64 a1_21, .int .i64 a1_22, .int .i64 a1_23] 44 (0, 0)) (by (with_reducible repeat (first | refine blk_drewN ?_ _ | refine blk_drew ?_ | refine blk_alloc ?_ _)); exact BK412.out) hb)
    have n2_ := Aside0.mk (below_step (by repeat (first | (with_reducible first | exact HB.out | apply below_alloc | apply pw_below_drewN | apply below_drew1 | refine below_set ?_ GE411.out | refine below_set ?_ GE412.out) | exact HB.out)) hb)
    clear BK411
    clear BK412
    clear HB
    have BK411 := n0_
    have BK412 := n1_
    have HB := n2_
    clear n0_ n1_ n2_
    (try clear hb)
    (try clear hb2)
    (try clear hk)
    (try clear hi)
    refine hK.out _ _ ⟨(blk_cell BK411.out 0).trans rfl, (blk_cell BK411.out 1).trans rfl, (blk_cell BK411.out 2).trans rfl, (blk_cell BK411.out 3).trans rfl, (blk_cell BK411.out 4).trans rfl, (blk_cell BK411.out 5).trans rfl, (blk_cell BK411.out 6).trans rfl, (blk_cell BK411.out 7).trans rfl, (blk_cell BK411.out 8).trans rfl, (blk_cell BK411.out 9).trans rfl, (blk_cell BK411.out 10).trans rfl, (blk_cell BK412.out 0).trans rfl, (blk_cell BK412.out 1).trans rfl, (blk_cell BK412.out 2).trans rfl, (blk_cell BK412.out 3).trans rfl, (blk_cell BK412.out 4).trans rfl, (blk_cell BK412.out 5).trans rfl, (blk_cell BK412.out 6).trans rfl, (blk_cell BK412.out 7).trans rfl, (blk_cell BK412.out 8).trans rfl, (blk_cell BK412.out 9).trans rfl, (blk_cell BK412.out 10).trans rfl, (blk_cell BK412.out 11).trans rfl, (blk_cell BK412.out 12).trans rfl, (blk_cell BK412.out 13).trans rfl, (blk_cell BK412.out 14).trans rfl, (blk_cell BK412.out 15).trans rfl, (blk_cell BK412.out 16).trans rfl, (blk_cell BK412.out 17).trans rfl, (blk_cell BK412.out 18).trans rfl, (blk_cell BK412.out 19).trans rfl, (blk_cell BK412.out 20).trans rfl, (blk_cell BK412.out 21).trans rfl, (blk_cell BK412.out 22).trans rfl, (blk_cell BK412.out 23).trans rfl⟩ (fun hHeld => ?_)
    clear hK K
    refine norm_ (a' := ?_) ?_ ?_
    rotate_left
    ·show Act.put _ (some 24) _ = _
     simp only [Act.put, List.setIfInBounds_toArray, List.set_cons_zero, List.set_cons_succ, i64_w, i32_w]
     rfl
    refine pure_ (i := 10) (N := some 6) (v := ?_) (a' := ?_) #[true, true, true, true, true, true, true, true, true, true, true] rfl rfl (any_of HT_.out (by kernel_rfl)) (fun _ _ _ h => h) (Or.inl ⟨by rfl, ?_⟩) ?_ ?_
    rotate_left
    ·intro w'
     go_simp
     with_reducible rfl
    rotate_left
    ·simp only [Act.put, List.setIfInBounds_toArray, List.set_cons_zero, List.set_cons_succ, i64_w, i32_w]
     rfl
    refine done_ (done_of HT_.out (by kernel_rfl)) ?_
    try go_wp2
    go_ret
    exact ⟨by first | rfl | (simp [errW_none, errW_some] <;> rfl) | (simp [*, errW_none, errW_some] <;> rfl), by repeat (first | (with_reducible first | exact HB.out | apply below_alloc | apply pw_below_drewN | apply below_drew1 | refine below_set ?_ GE411.out | refine below_set ?_ GE412.out) | exact HB.out)⟩
end Go.Proofs.Ytdcknaoamjlaiaa.Gn
