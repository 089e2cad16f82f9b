import Derived.Test.YtebflimijebbnaaZAcceptAllGn0
import Derived.Test.YtebflimijebbnaaZAcceptAllGn2
import Derived.Test.YtebflimijebbnaaZAcceptAllGn21
import Derived.Test.YtebflimijebbnaaZAcceptAllGn33
namespace Go.Proofs.Ytebflimijebbnaa.Gn
open Go.RowKit Go.Proofs.YtebflimijebbnaaW.PrintWords Go.Proofs.YtebflimijebbnaaW.PrintLast Go.Proofs.YtebflimijebbnaaW.PrintMore
attribute [local go_sem] max2_int min2_int max_two min_two max_three min_three max_four min_four   -- for this text's walks alone
set_option linter.unusedVariables false
set_option linter.unusedSimpArgs false
def r24_All.l0 : Nat → List (S32) → List (S35) → Int → Int → Int → Int → Int → Int → Int → Int → Int → Int → Int → Int → List Int → Int → Int → Int → ByteArray → Int → ByteArray → ByteArray → Int → Int → ByteArray → ByteArray → ByteArray → ByteArray → ByteArray → ByteArray → List (S99) → List ByteArray → List (S101) → Int → Int → Int → Int → Int → Int → Option (ByteArray × ByteArray × (List (S35)) × Int)
 | 0, _, _, _, _, _, _, _, _, _, _, _, _, _, _, _, _, _, _, _, _, _, _, _, _, _, _, _, _, _, _, _, _, _, _, _, _, _, _, _ => none
 | k + 1, x2, x10, x11, x12, x402000, x402001, x402002, x402003, x402004, x402005, x402006, x402007, x402008, x402009, x402010, x403000, x403001, x403002, x403003, x403004, x403005, x403006, x403007, x403008, x403009, x403010, x403011, x403012, x403013, x403014, x403015, x403016, x403017, x403018, x403019, x403020, x403021, x403022, x403023 => if x12 < (x2.length : Int) then (if 0 ≤ x12 then (if ((rd_T32 x2 x12).f3) = 0 then (r24_All.l0 k x2 x10 x11 (wrap64 (x12 + 1)) x402000 x402001 x402002 x402003 x402004 x402005 x402006 x402007 x402008 x402009 x402010 x403000 x403001 x403002 x403003 x403004 x403005 x403006 x403007 x403008 x403009 x403010 x403011 x403012 x403013 x403014 x403015 x403016 x403017 x403018 x403019 x403020 x403021 x403022 x403023) else ((r24_Take.f k x402000 x402001 x402002 x402003 x402004 x402005 x402006 x402007 x402008 x402009 x402010 x403000 x403001 x403002 x403003 x403004 x403005 x403006 x403007 x403008 x403009 x403010 x403011 x403012 x403013 x403014 x403015 x403016 x403017 x403018 x403019 x403020 x403021 x403022 x403023 x12 ((rd_T32 x2 x12).f0) ((rd_T32 x2 x12).f1) ((rd_T32 x2 x12).f2) ((rd_T32 x2 x12).f3) ((rd_T32 x2 x12).f4) ((rd_T32 x2 x12).f5)).bind fun bt406 => (if bt406.2.2.2.2.2.2 = 0 then (if x10.length < 3518437208883 then (r24_All.l0 k x2 (x10 ++ [(⟨bt406.2.2.1, bt406.2.2.2.1, bt406.2.2.2.2.1, bt406.2.2.2.2.2.1⟩ : S35)]) x11 (wrap64 (x12 + 1)) x402000 x402001 x402002 x402003 x402004 x402005 x402006 x402007 x402008 x402009 x402010 x403000 x403001 x403002 x403003 x403004 x403005 x403006 x403007 x403008 x403009 bt406.2.1 bt406.1 x403012 x403013 x403014 x403015 x403016 x403017 x403018 x403019 x403020 x403021 x403022 x403023) else (none)) else (r24_All.l0 k x2 x10 (wrap64 (x11 + 1)) (wrap64 (x12 + 1)) x402000 x402001 x402002 x402003 x402004 x402005 x402006 x402007 x402008 x402009 x402010 x403000 x403001 x403002 x403003 x403004 x403005 x403006 x403007 x403008 x403009 x403010 x403011 x403012 x403013 x403014 x403015 x403016 x403017 x403018 x403019 x403020 x403021 x403022 x403023)))) else (none)) else (some (x403011, x403010, x10, x11))
def r24_All.f (k : Nat) (a0_0 a0_1 a0_2 a0_3 a0_4 a0_5 a0_6 a0_7 a0_8 a0_9 : Int) (l0_10 : List Int) (a1_0 a1_1 a1_2 : Int) (a1_3 : ByteArray) (a1_4 : Int) (a1_5 a1_6 : ByteArray) (a1_7 a1_8 : Int) (a1_9 a1_10 a1_11 a1_12 a1_13 a1_14 : ByteArray) (l1_15 : List (S99)) (l1_16 : List ByteArray) (l1_17 : List (S101)) (a1_18 a1_19 a1_20 a1_21 a1_22 a1_23 : Int) (l2 : List (S32)) : Option (ByteArray × ByteArray × (List (S35)) × Int) := (r03_Plain.f k a0_0 a0_1 a0_2 a0_3 a0_4 a0_5 a0_6 a0_7 a0_8 a0_9 l0_10).bind fun t403 => (if t403 = 0 then (r24_All.l0 k l2 ([] : List (S35)) 0 0 a0_0 a0_1 a0_2 a0_3 a0_4 a0_5 a0_6 a0_7 a0_8 a0_9 l0_10 a1_0 a1_1 a1_2 a1_3 a1_4 a1_5 a1_6 a1_7 a1_8 a1_9 a1_10 a1_11 a1_12 a1_13 a1_14 l1_15 l1_16 l1_17 a1_18 a1_19 a1_20 a1_21 a1_22 a1_23) else (some ((⟨#[]⟩ : ByteArray), (⟨#[]⟩ : ByteArray), ([] : List (S35)), 0)))
def r24_All.T9 : Bool × List (List Nat × List Nat) := (true, [([], []), ([], []), ([], []), ([], []), ([], []), ([3, 4], [3, 4]), ([5], [5]), ([0, 1, 2, 6], [0, 1, 2, 6]), ([7], [7]), ([8], [8]), ([8], [8]), ([8], [8]), ([8], [8]), ([], []), ([9, 7, 0, 1, 2, 3, 4, 5, 6, 7, 8, 9, 13], [9]), ([10, 14, 0, 1, 2, 3, 4, 5, 6, 7, 8, 9, 10, 13, 14], [10]), ([13, 11, 15, 0, 1, 2, 3, 4, 5, 6, 7, 8, 9, 10, 11, 13, 14, 15], [11, 13]), ([12, 16, 0, 1, 2, 3, 4, 5, 6, 7, 8, 9, 10, 11, 12, 13, 14, 15, 16], [12])])
def r24_All.B9 : List Nat := [0, 0, 0, 0, 0, 24, 56, 127, 255, 511, 511, 511, 511, 0, 9215, 26623, 61439, 131071]
theorem r24_All.tab9 : rtab .any (opsOf Try.f13 9) = r24_All.T9 := by kernel_rfl
theorem r24_All.bits9 : waitsOk r24_All.T9.2 r24_All.B9 = true := by kernel_rfl
def r24_All.T15 : Bool × List (List Nat × List Nat) := (true, [([], []), ([0], [0]), ([], []), ([2], [2]), ([], []), ([], []), ([1, 0, 1], [1]), ([3, 6, 0, 1, 2, 3, 6], [3]), ([4, 7, 0, 1, 2, 3, 4, 6, 7], [4]), ([5, 8, 0, 1, 2, 3, 4, 5, 6, 7, 8], [5])])
def r24_All.B15 : List Nat := [0, 1, 0, 4, 0, 0, 3, 79, 223, 511]
theorem r24_All.tab15 : rtab .any (opsOf Try.f13 15) = r24_All.T15 := by kernel_rfl
theorem r24_All.bits15 : waitsOk r24_All.T15.2 r24_All.B15 = true := by kernel_rfl
set_option maxHeartbeats 8000000 in
set_option maxRecDepth 100000 in
theorem r24_All.calls (k : Nat) (a0_0 a0_1 a0_2 a0_3 a0_4 a0_5 a0_6 a0_7 a0_8 a0_9 : Int) (A0_10 : Option Addr) (c0_10 : Nat) (l0_10 : List Int) (a1_0 a1_1 a1_2 : Int) (a1_3 : ByteArray) (a1_4 : Int) (a1_5 a1_6 : ByteArray) (a1_7 a1_8 : Int) (a1_9 a1_10 a1_11 a1_12 a1_13 a1_14 : ByteArray) (A1_15 : Option Addr) (c1_15 : Nat) (l1_15 : List (S99)) (A1_16 : Option Addr) (c1_16 : Nat) (l1_16 : List ByteArray) (A1_17 : Option Addr) (c1_17 : Nat) (l1_17 : List (S101)) (a1_18 a1_19 a1_20 a1_21 a1_22 a1_23 : Int) (A2 : Option Addr) (c2 : Nat) (l2 : List (S32)) (r1 r2 : ByteArray) (r3 : List (S35)) (r4 : Int) (w : World) (hr0_10 : Kd.C (Kd.int .i64) w A0_10 l0_10.length l0_10) (hc0_10 : l0_10.length ≤ c0_10) (hr1_15 : Kd.C k99 w A1_15 l1_15.length l1_15) (hc1_15 : l1_15.length ≤ c1_15) (hr1_16 : Kd.C Kd.string w A1_16 l1_16.length l1_16) (hc1_16 : l1_16.length ≤ c1_16) (hr1_17 : Kd.C k101 w A1_17 l1_17.length l1_17) (hc1_17 : l1_17.length ≤ c1_17) (hr2 : Kd.C k32 w A2 l2.length l2) (hc2 : l2.length ≤ c2) (h : r24_All.f k a0_0 a0_1 a0_2 a0_3 a0_4 a0_5 a0_6 a0_7 a0_8 a0_9 l0_10 a1_0 a1_1 a1_2 a1_3 a1_4 a1_5 a1_6 a1_7 a1_8 a1_9 a1_10 a1_11 a1_12 a1_13 a1_14 l1_15 l1_16 l1_17 a1_18 a1_19 a1_20 a1_21 a1_22 a1_23 l2 = some (r1, r2, r3, r4)) :
  Calls Try.prog 13 #[.agg #[.int .i64 a0_0, .int .i64 a0_1, .int .i64 a0_2, .int .i64 a0_3, .int .i64 a0_4, .int .i64 a0_5, .int .i64 a0_6, .int .i64 a0_7, .int .i64 a0_8, .int .i64 a0_9, .slice A0_10 l0_10.length c0_10], .agg #[.int .i64 a1_0, .int .i64 a1_1, .int .i64 a1_2, .string a1_3, .int .i64 a1_4, .string a1_5, .string a1_6, .int .i64 a1_7, .int .i64 a1_8, .string a1_9, .string a1_10, .string a1_11, .string a1_12, .string a1_13, .string a1_14, .slice A1_15 l1_15.length c1_15, .slice A1_16 l1_16.length c1_16, .slice A1_17 l1_17.length c1_17, .int .i64 a1_18, .int .i64 a1_19, .int .i64 a1_20, .int .i64 a1_21, .int .i64 a1_22, .int .i64 a1_23], .slice A2 l2.length c2] w fun e w' => ∃ v2_ : Value, e = .returned (.tuple #[.string r1, .string r2, v2_, .int .i64 r4]) ∧ Kd.R k35 35 w' w.heap.size (fun _ => True) v2_ r3 ∧ Below w.heap.size w w' := by
 have hu24 := Try.underlying24
 have hu32 := Try.underlying32
 have hu35 := Try.underlying35
 have HR0_10 := Aside0.mk hr0_10
 have HC0_10 := Aside0.mk hc0_10
 clear hr0_10 hc0_10
 have HR1_15 := Aside0.mk hr1_15
 have HC1_15 := Aside0.mk hc1_15
 clear hr1_15 hc1_15
 have HR1_16 := Aside0.mk hr1_16
 have HC1_16 := Aside0.mk hc1_16
 clear hr1_16 hc1_16
 have HR1_17 := Aside0.mk hr1_17
 have HC1_17 := Aside0.mk hc1_17
 clear hr1_17 hc1_17
 have HR2 := Aside0.mk hr2
 have HC2 := Aside0.mk hc2
 clear hr2 hc2
 have HB := Aside0.mk (Below.refl w.heap.size w)
 have H : ((r03_Plain.f k a0_0 a0_1 a0_2 a0_3 a0_4 a0_5 a0_6 a0_7 a0_8 a0_9 l0_10).bind fun t403 => (if t403 = 0 then (r24_All.l0 k l2 ([] : List (S35)) 0 0 a0_0 a0_1 a0_2 a0_3 a0_4 a0_5 a0_6 a0_7 a0_8 a0_9 l0_10 a1_0 a1_1 a1_2 a1_3 a1_4 a1_5 a1_6 a1_7 a1_8 a1_9 a1_10 a1_11 a1_12 a1_13 a1_14 l1_15 l1_16 l1_17 a1_18 a1_19 a1_20 a1_21 a1_22 a1_23) else (some ((⟨#[]⟩ : ByteArray), (⟨#[]⟩ : ByteArray), ([] : List (S35)), 0)))) = some (r1, r2, r3, r4) := h
 clear h
 replace H := Option.bind_eq_some_iff.mp H
 obtain ⟨t403, A40, H⟩ := H
 try dsimp only at H
 have A4 := Aside0.mk A40
 clear A40
 by_cases c5 : t403 = 0
 ·rw [if_pos c5] at H
  have c5b0 : (t403 == 0) = true := beq_iff_eq.mpr c5
  have c5b1 : (t403 != 0) = false := bne_eq_false_iff_eq.mpr c5
  clear c5
  have H' := Aside0.mk H
  clear H
  go_enter Try.func13, Try.ntmps13
  go_wp2_with (first | ((with_reducible refine gate_load (t := 30) (x := .tmp 4) rfl ?_); refine load_row_g (cs := ?_) ?hw 30 (.tmp 4) ?h2 gb402 ?hx 30 (fr := (0, 0)) (d := ?_) ?hg ?h3 ?h4 ?hi ?_; (case hw => first | (with_reducible rfl) | (go_simp; done) | rfl); (case h2 => rfl); (case hx => first | (with_reducible rfl) | (go_simp; done) | rfl); (case hg => (with_reducible repeat (first | refine blk_drewN ?_ _ | refine blk_drew ?_ | refine blk_alloc ?_ _)); with_reducible exact BK402.out); (case h3 => exact Try.underlying30); (case h4 => rfl); (case hi => kernel_rfl)) | ((with_reducible refine gate_dst (N := 3) rfl ?_); refine box_event ?hg (N := 3) ?hd (cs := #[.int .i64 a0_0, .int .i64 a0_1, .int .i64 a0_2, .int .i64 a0_3, .int .i64 a0_4, .int .i64 a0_5, .int .i64 a0_6, .int .i64 a0_7, .int .i64 a0_8, .int .i64 a0_9, .slice A0_10 l0_10.length c0_10]) (t := 24) ?hr ?_; (case hd => rfl); (case hg => rfl); (case hr => first | (go_simp; done) | (go_simp; rfl)); intro gb401 hg w6 hbox hb; have BK401 := Aside0.mk (hbox); have GW401 := Aside0.mk ((by rw [hg]; exact (below_size HB.out) : w.heap.size ≤ gb401)); have GE401 := GW401; replace HB := Aside0.mk (below_step HB.out hb); clear hb hbox hg) | ((with_reducible refine gate_dst (N := 4) rfl ?_); refine box_event ?hg (N := 4) ?hd (cs := #[.int .i64 a1_0, .int .i64 a1_1, .int .i64 a1_2, .string a1_3, .int .i64 a1_4, .string a1_5, .string a1_6, .int .i64 a1_7, .int .i64 a1_8, .string a1_9, .string a1_10, .string a1_11, .string a1_12, .string a1_13, .string a1_14, .slice A1_15 l1_15.length c1_15, .slice A1_16 l1_16.length c1_16, .slice A1_17 l1_17.length c1_17, .int .i64 a1_18, .int .i64 a1_19, .int .i64 a1_20, .int .i64 a1_21, .int .i64 a1_22, .int .i64 a1_23]) (t := 30) ?hr ?_; (case hd => rfl); (case hg => rfl); (case hr => first | (go_simp; done) | (go_simp; rfl)); intro gb402 hg w7 hbox hb; have BK402 := Aside0.mk (hbox); have GW402 := Aside0.mk ((by rw [hg]; exact (below_size HB.out) : w.heap.size ≤ gb402)); have GE402 := GW402; replace HB := Aside0.mk (below_step HB.out hb); have NB401_402 := Aside0.mk ((by rw [hg]; exact Nat.ne_of_lt (blk_lt BK401.out) : gb401 ≠ gb402)); have NB402_401 := Aside0.mk NB401_402.out.symm; replace BK401 := Aside0.mk (blk_below BK401.out hb); clear hb hbox hg; have hnb8 := NB401_402.out; have hnc8 := NB402_401.out; obtain ⟨hcz9_0, hcz9_1, hcz9_2, hcz9_3, hcz9_4, hcz9_5, hcz9_6, hcz9_7, hcz9_8, hcz9_9, hcz9_10⟩ := cells_11 BK401.out; obtain ⟨hfz9_0, hfz9_1, hfz9_2, hfz9_3, hfz9_4, hfz9_5, hfz9_6, hfz9_7, hfz9_8, hfz9_9, hfz9_10⟩ := frozen_11 BK401.out) | ((with_reducible refine gate_callee (f := 30) rfl ?_); refine goesL_ (some 18) rfl rfl Try.func30 (by kernel_rfl) rfl #[.agg #[.int .i64 a0_0, .int .i64 a0_1, .int .i64 a0_2, .int .i64 a0_3, .int .i64 a0_4, .int .i64 a0_5, .int .i64 a0_6, .int .i64 a0_7, .int .i64 a0_8, .int .i64 a0_9, .slice A0_10 l0_10.length c0_10]] rfl (by (try simp only [List.map_toArray, List.map_cons, List.map_nil]); first | done | rfl) ?_; (with_reducible refine (r03_Plain.calls k a0_0 a0_1 a0_2 a0_3 a0_4 a0_5 a0_6 a0_7 a0_8 a0_9 _ _ l0_10 t403 _ ?side1 ?side2 A4.out).mono ?_); (case side1 => exact (Kd.C_below HR0_10.out HB.out)); (case side2 => exact HC0_10.out); rintro e w10 ⟨rfl, hb⟩; refine ⟨_, rfl, ?_⟩; replace BK401 := Aside0.mk (blk_below BK401.out hb); replace BK402 := Aside0.mk (blk_below BK402.out hb); replace HB := Aside0.mk (below_step HB.out hb); (try clear hb)))
  go_loopg [10, 11, 12] k (fun kq v10 v11 v12 w' => ∃ (x10_1 : List (S35)) (x11_1 : Int) (x12_1 : Int) (x403010_1 : ByteArray) (x403011_1 : ByteArray), v11 = .int .i64 x11_1 ∧ v12 = .int .i64 x12_1 ∧ Aside0 (r24_All.l0 kq l2 x10_1 x11_1 x12_1 a0_0 a0_1 a0_2 a0_3 a0_4 a0_5 a0_6 a0_7 a0_8 a0_9 l0_10 a1_0 a1_1 a1_2 a1_3 a1_4 a1_5 a1_6 a1_7 a1_8 a1_9 x403010_1 x403011_1 a1_12 a1_13 a1_14 l1_15 l1_16 l1_17 a1_18 a1_19 a1_20 a1_21 a1_22 a1_23 = some (r1, r2, r3, r4)) ∧ Aside0 (kq ≤ k) ∧ Aside0 (Kd.R k35 35 w' w.heap.size (fun _ => True) v10 x10_1) ∧ Aside0 (w'.heap[gb401]? = some (.cells #[.int .i64 a0_0, .int .i64 a0_1, .int .i64 a0_2, .int .i64 a0_3, .int .i64 a0_4, .int .i64 a0_5, .int .i64 a0_6, .int .i64 a0_7, .int .i64 a0_8, .int .i64 a0_9, (.slice A0_10 l0_10.length c0_10)] 24 (0, 0))) ∧ Aside0 (w'.heap[gb402]? = some (.cells #[.int .i64 a1_0, .int .i64 a1_1, .int .i64 a1_2, .string a1_3, .int .i64 a1_4, .string a1_5, .string a1_6, .int .i64 a1_7, .int .i64 a1_8, .string a1_9, .string x403010_1, .string x403011_1, .string a1_12, .string a1_13, .string a1_14, (.slice A1_15 l1_15.length c1_15), (.slice A1_16 l1_16.length c1_16), (.slice A1_17 l1_17.length c1_17), .int .i64 a1_18, .int .i64 a1_19, .int .i64 a1_20, .int .i64 a1_21, .int .i64 a1_22, .int .i64 a1_23] 30 (0, 0))) ∧ Aside0 (Below w.heap.size w w'))
  case atStart => exact ⟨(([] : List (S35))), (0), (0), (a1_10), (a1_11), (by first | rfl | (simp; done) | (simp [*]; done)), (by first | rfl | (simp; done) | (simp [*]; done)), H', ⟨Nat.le_refl _⟩, ⟨by first | exact Kd.R_nil _ _ _ _ _ | exact Kd.N_nil _ _ _ _ _ | exact Kd.V_nil _ _ _ _ _ | exact Kd.Q_nil _ _ _ _ _ | exact Kd.S_nil _ _ _ _ _⟩, ⟨by (with_reducible repeat (first | refine blk_drewN ?_ _ | refine blk_drew ?_ | refine blk_alloc ?_ _)); exact BK401.out⟩, ⟨by (with_reducible repeat (first | refine blk_drewN ?_ _ | refine blk_drew ?_ | refine blk_alloc ?_ _)); exact BK402.out⟩, ⟨by repeat (first | (with_reducible first | exact HB.out | apply below_alloc | apply pw_below_drewN | apply below_drew1 | refine below_set ?_ GE401.out | refine below_set ?_ GE402.out) | exact HB.out)⟩⟩
  case round =>
   clear H'
   try clear c1
   try clear c2
   try clear p2
   try clear c3
   try clear c5
   try clear c5b0
   try clear c5b1
   try clear c8
   try clear hcz9_0
   try clear hcz9_1
   try clear hcz9_10
   try clear hcz9_2
   try clear hcz9_3
   try clear hcz9_4
   try clear hcz9_5
   try clear hcz9_6
   try clear hcz9_7
   try clear hcz9_8
   try clear hcz9_9
   try clear hfz9_0
   try clear hfz9_1
   try clear hfz9_10
   try clear hfz9_2
   try clear hfz9_3
   try clear hfz9_4
   try clear hfz9_5
   try clear hfz9_6
   try clear hfz9_7
   try clear hfz9_8
   try clear hfz9_9
   obtain ⟨x10_1, x11_1, x12_1, x403010_1, x403011_1, rfl, rfl, HA, HK1, HO_10, BK401, BK402, HB⟩ := hrel
   cases gk with
   | zero => exact absurd HA.out (by simp [r24_All.l0])
   | succ k1 =>
    have H := HA.out
    clear HA
    simp only [r24_All.l0] at H
    by_cases c11 : x12_1 < (l2.length : Int)
    ·rw [if_pos c11] at H
     have c11b0 : decide (x12_1 < (l2.length : Int)) = true := decide_eq_true c11
     clear c11
     by_cases c12 : 0 ≤ x12_1
     ·rw [if_pos c12] at H
      have c12b0 : decide (0 ≤ x12_1) = true := decide_eq_true c12
      clear c12
      by_cases c13 : ((rd_T32 l2 x12_1).f3) = 0
      ·rw [if_pos c13] at H
       have c13b0 : (((rd_T32 l2 x12_1).f3) == 0) = true := beq_iff_eq.mpr c13
       have c13b1 : (((rd_T32 l2 x12_1).f3) != 0) = false := bne_eq_false_iff_eq.mpr c13
       clear c13
       have H' := Aside0.mk H
       clear H
       have p404 : 0 ≤ (x12_1 : Int) := of_decide_eq_true (by first | (with_reducible assumption) | assumption)
       have q404 : x12_1 < (l2.length : Int) := of_decide_eq_true (by first | (with_reducible assumption) | assumption)
       obtain ⟨ad404, e404, hx404_0, hx404_1, hx404_2, hx404_3, hx404_4, hx404_5⟩ := at_T32 HR2.out x12_1 p404 q404
       cases e404
       replace hx404_0 := (HB.out.cell (World.block_lt_of_cell? w _ hx404_0)).trans hx404_0
       replace hx404_1 := (HB.out.cell (World.block_lt_of_cell? w _ hx404_1)).trans hx404_1
       replace hx404_2 := (HB.out.cell (World.block_lt_of_cell? w _ hx404_2)).trans hx404_2
       replace hx404_3 := (HB.out.cell (World.block_lt_of_cell? w _ hx404_3)).trans hx404_3
       replace hx404_4 := (HB.out.cell (World.block_lt_of_cell? w _ hx404_4)).trans hx404_4
       replace hx404_5 := (HB.out.cell (World.block_lt_of_cell? w _ hx404_5)).trans hx404_5
       replace p404 := eq_true p404
       replace q404 := eq_true q404
       go_wp2
       go_roundg k1
       case measure => have := HK1.out; omega
       case rel => exact ⟨(x10_1), (x11_1), (wrap64 (x12_1 + 1)), (x403010_1), (x403011_1), (by first | rfl | (simp; done) | (simp [*]; done)), (by first | rfl | (simp; done) | (simp [*]; done)), H', ⟨by have := HK1.out; omega⟩, ⟨by (with_reducible repeat (first | apply Kd.R_alloc | apply Kd.R_drewN | apply Kd.R_drew)); exact HO_10.out⟩, ⟨by (with_reducible repeat (first | refine blk_drewN ?_ _ | refine blk_drew ?_ | refine blk_alloc ?_ _)); exact BK401.out⟩, ⟨by (with_reducible repeat (first | refine blk_drewN ?_ _ | refine blk_drew ?_ | refine blk_alloc ?_ _)); exact BK402.out⟩, ⟨by repeat (first | (with_reducible first | exact HB.out | apply below_alloc | apply pw_below_drewN | apply below_drew1 | refine below_set ?_ GE401.out | refine below_set ?_ GE402.out) | exact HB.out)⟩⟩
      ·rw [if_neg c13] at H
       have c13b0 : (((rd_T32 l2 x12_1).f3) == 0) = false := beq_eq_false_iff_ne.mpr c13
       have c13b1 : (((rd_T32 l2 x12_1).f3) != 0) = true := bne_iff_ne.mpr c13
       replace H := Option.bind_eq_some_iff.mp H
       obtain ⟨⟨t406, t407, t408, t409, t410, t411, t412⟩, A140, H⟩ := H
       try dsimp only at H
       have A14 := Aside0.mk A140
       clear A140
       by_cases c15 : t412 = 0
       ·rw [if_pos c15] at H
        have c15b0 : (t412 == 0) = true := beq_iff_eq.mpr c15
        have c15b1 : (t412 != 0) = false := bne_eq_false_iff_eq.mpr c15
        clear c15
        by_cases c16 : x10_1.length < 3518437208883
        ·rw [if_pos c16] at H
         have LMc16 := Aside0.mk c16
         clear c16
         obtain ⟨y414, hy414⟩ : ∃ y_ : List (S35), y_ = (x10_1 ++ [(⟨t408, t409, t410, t411⟩ : S35)]) := ⟨_, rfl⟩
         replace H : (r24_All.l0 k1 l2 y414 x11_1 (wrap64 (x12_1 + 1)) a0_0 a0_1 a0_2 a0_3 a0_4 a0_5 a0_6 a0_7 a0_8 a0_9 l0_10 a1_0 a1_1 a1_2 a1_3 a1_4 a1_5 a1_6 a1_7 a1_8 a1_9 t407 t406 a1_12 a1_13 a1_14 l1_15 l1_16 l1_17 a1_18 a1_19 a1_20 a1_21 a1_22 a1_23) = some (r1, r2, r3, r4) := by first | (rw [hy414]; with_reducible exact H) | (have H2_ := (Option.bind_some _ _).symm.trans H; rw [hy414]; with_reducible exact H2_) | (have H2_ := (Option.bind_some _ _).symm.trans H; with_reducible exact H2_) | with_reducible exact H | (rw [hy414]; exact H) | exact H
         have Ny414 := Aside0.mk hy414
         clear hy414
         have H' := Aside0.mk H
         clear H
         have p404 : 0 ≤ (x12_1 : Int) := of_decide_eq_true (by first | (with_reducible assumption) | assumption)
         have q404 : x12_1 < (l2.length : Int) := of_decide_eq_true (by first | (with_reducible assumption) | assumption)
         obtain ⟨ad404, e404, hx404_0, hx404_1, hx404_2, hx404_3, hx404_4, hx404_5⟩ := at_T32 HR2.out x12_1 p404 q404
         cases e404
         replace hx404_0 := (HB.out.cell (World.block_lt_of_cell? w _ hx404_0)).trans hx404_0
         replace hx404_1 := (HB.out.cell (World.block_lt_of_cell? w _ hx404_1)).trans hx404_1
         replace hx404_2 := (HB.out.cell (World.block_lt_of_cell? w _ hx404_2)).trans hx404_2
         replace hx404_3 := (HB.out.cell (World.block_lt_of_cell? w _ hx404_3)).trans hx404_3
         replace hx404_4 := (HB.out.cell (World.block_lt_of_cell? w _ hx404_4)).trans hx404_4
         replace hx404_5 := (HB.out.cell (World.block_lt_of_cell? w _ hx404_5)).trans hx404_5
         replace p404 := eq_true p404
         replace q404 := eq_true q404
         try go_wp2
         replace HO_10 := Aside0.mk (Kd.R_drew HO_10.out)
         replace BK401 := Aside0.mk (blk_drew BK401.out)
         replace BK402 := Aside0.mk (blk_drew BK402.out)
         replace HB := Aside0.mk (below_drew1 HB.out)
         have p405 : 0 ≤ (x12_1 : Int) := of_decide_eq_true (by first | (with_reducible assumption) | assumption)
         have q405 : x12_1 < (l2.length : Int) := of_decide_eq_true (by first | (with_reducible assumption) | assumption)
         obtain ⟨ad405, e405, hx405_0, hx405_1, hx405_2, hx405_3, hx405_4, hx405_5⟩ := at_T32 HR2.out x12_1 p405 q405
         have hw405_5 := hx405_5
         have hw405_4 := hx405_4
         have hw405_3 := hx405_3
         have hw405_2 := hx405_2
         have hw405_1 := hx405_1
         have hw405_0 := hx405_0
         obtain rfl : ad404 = ad405 := (by injection e405)
         replace hx405_0 := (HB.out.cell (World.block_lt_of_cell? w _ hx405_0)).trans hx405_0
         replace hx405_1 := (HB.out.cell (World.block_lt_of_cell? w _ hx405_1)).trans hx405_1
         replace hx405_2 := (HB.out.cell (World.block_lt_of_cell? w _ hx405_2)).trans hx405_2
         replace hx405_3 := (HB.out.cell (World.block_lt_of_cell? w _ hx405_3)).trans hx405_3
         replace hx405_4 := (HB.out.cell (World.block_lt_of_cell? w _ hx405_4)).trans hx405_4
         replace hx405_5 := (HB.out.cell (World.block_lt_of_cell? w _ hx405_5)).trans hx405_5
         replace p405 := eq_true p405
         replace q405 := eq_true q405
         refine start_ (n := 18) (S := fun w' => w'.cell? ⟨gb401, 0, none⟩ = some (.int .i64 a0_0) ∧ w'.cell? ⟨gb401, 1, none⟩ = some (.int .i64 a0_1) ∧ w'.cell? ⟨gb401, 2, none⟩ = some (.int .i64 a0_2) ∧ w'.cell? ⟨gb401, 3, none⟩ = some (.int .i64 a0_3) ∧ w'.cell? ⟨gb401, 4, none⟩ = some (.int .i64 a0_4) ∧ w'.cell? ⟨gb401, 5, none⟩ = some (.int .i64 a0_5) ∧ w'.cell? ⟨gb401, 6, none⟩ = some (.int .i64 a0_6) ∧ w'.cell? ⟨gb401, 7, none⟩ = some (.int .i64 a0_7) ∧ w'.cell? ⟨gb401, 8, none⟩ = some (.int .i64 a0_8) ∧ w'.cell? ⟨gb401, 9, none⟩ = some (.int .i64 a0_9) ∧ w'.cell? ⟨gb401, 10, none⟩ = some (.slice A0_10 l0_10.length c0_10) ∧ w'.cell? ⟨gb402, 0, none⟩ = some (.int .i64 a1_0) ∧ w'.cell? ⟨gb402, 1, none⟩ = some (.int .i64 a1_1) ∧ w'.cell? ⟨gb402, 2, none⟩ = some (.int .i64 a1_2) ∧ w'.cell? ⟨gb402, 3, none⟩ = some (.string a1_3) ∧ w'.cell? ⟨gb402, 4, none⟩ = some (.int .i64 a1_4) ∧ w'.cell? ⟨gb402, 5, none⟩ = some (.string a1_5) ∧ w'.cell? ⟨gb402, 6, none⟩ = some (.string a1_6) ∧ w'.cell? ⟨gb402, 7, none⟩ = some (.int .i64 a1_7) ∧ w'.cell? ⟨gb402, 8, none⟩ = some (.int .i64 a1_8) ∧ w'.cell? ⟨gb402, 9, none⟩ = some (.string a1_9) ∧ w'.cell? ⟨gb402, 10, none⟩ = some (.string x403010_1) ∧ w'.cell? ⟨gb402, 11, none⟩ = some (.string x403011_1) ∧ w'.cell? ⟨gb402, 12, none⟩ = some (.string a1_12) ∧ w'.cell? ⟨gb402, 13, none⟩ = some (.string a1_13) ∧ w'.cell? ⟨gb402, 14, none⟩ = some (.string a1_14) ∧ w'.cell? ⟨gb402, 15, none⟩ = some (.slice A1_15 l1_15.length c1_15) ∧ w'.cell? ⟨gb402, 16, none⟩ = some (.slice A1_16 l1_16.length c1_16) ∧ w'.cell? ⟨gb402, 17, none⟩ = some (.slice A1_17 l1_17.length c1_17) ∧ w'.cell? ⟨gb402, 18, none⟩ = some (.int .i64 a1_18) ∧ w'.cell? ⟨gb402, 19, none⟩ = some (.int .i64 a1_19) ∧ w'.cell? ⟨gb402, 20, none⟩ = some (.int .i64 a1_20) ∧ w'.cell? ⟨gb402, 21, none⟩ = some (.int .i64 a1_21) ∧ w'.cell? ⟨gb402, 22, none⟩ = some (.int .i64 a1_22) ∧ w'.cell? ⟨gb402, 23, none⟩ = some (.int .i64 a1_23) ∧ w'.cell? (ad404.add ((x12_1).toNat * 6)) = some (.string ((rd_T32 l2 x12_1).f0)) ∧ w'.cell? ⟨(ad404.add ((x12_1).toNat * 6)).block, (ad404.add ((x12_1).toNat * 6)).off + 1, none⟩ = some (.int .i64 ((rd_T32 l2 x12_1).f1)) ∧ w'.cell? ⟨(ad404.add ((x12_1).toNat * 6)).block, (ad404.add ((x12_1).toNat * 6)).off + 2, none⟩ = some (.string ((rd_T32 l2 x12_1).f2)) ∧ w'.cell? ⟨(ad404.add ((x12_1).toNat * 6)).block, (ad404.add ((x12_1).toNat * 6)).off + 3, none⟩ = some (.int .i64 ((rd_T32 l2 x12_1).f3)) ∧ w'.cell? ⟨(ad404.add ((x12_1).toNat * 6)).block, (ad404.add ((x12_1).toNat * 6)).off + 4, none⟩ = some (.int .i64 ((rd_T32 l2 x12_1).f4)) ∧ w'.cell? ⟨(ad404.add ((x12_1).toNat * 6)).block, (ad404.add ((x12_1).toNat * 6)).off + 5, none⟩ = some (.string ((rd_T32 l2 x12_1).f5))) (ds := []) #[false, false, false, false, false, false, false, false, false, false, false, false, false, false, false, false, false, false] (by kernel_rfl) rfl rfl ⟨(blk_cell BK401.out 0).trans rfl, (blk_cell BK401.out 1).trans rfl, (blk_cell BK401.out 2).trans rfl, (blk_cell BK401.out 3).trans rfl, (blk_cell BK401.out 4).trans rfl, (blk_cell BK401.out 5).trans rfl, (blk_cell BK401.out 6).trans rfl, (blk_cell BK401.out 7).trans rfl, (blk_cell BK401.out 8).trans rfl, (blk_cell BK401.out 9).trans rfl, (blk_cell BK401.out 10).trans rfl, (blk_cell BK402.out 0).trans rfl, (blk_cell BK402.out 1).trans rfl, (blk_cell BK402.out 2).trans rfl, (blk_cell BK402.out 3).trans rfl, (blk_cell BK402.out 4).trans rfl, (blk_cell BK402.out 5).trans rfl, (blk_cell BK402.out 6).trans rfl, (blk_cell BK402.out 7).trans rfl, (blk_cell BK402.out 8).trans rfl, (blk_cell BK402.out 9).trans rfl, (blk_cell BK402.out 10).trans rfl, (blk_cell BK402.out 11).trans rfl, (blk_cell BK402.out 12).trans rfl, (blk_cell BK402.out 13).trans rfl, (blk_cell BK402.out 14).trans rfl, (blk_cell BK402.out 15).trans rfl, (blk_cell BK402.out 16).trans rfl, (blk_cell BK402.out 17).trans rfl, (blk_cell BK402.out 18).trans rfl, (blk_cell BK402.out 19).trans rfl, (blk_cell BK402.out 20).trans rfl, (blk_cell BK402.out 21).trans rfl, (blk_cell BK402.out 22).trans rfl, (blk_cell BK402.out 23).trans rfl, ((HB.out.cell (World.block_lt_of_cell? w _ hw405_0)).trans hw405_0), ((HB.out.cell (World.block_lt_of_cell? w _ hw405_1)).trans hw405_1), ((HB.out.cell (World.block_lt_of_cell? w _ hw405_2)).trans hw405_2), ((HB.out.cell (World.block_lt_of_cell? w _ hw405_3)).trans hw405_3), ((HB.out.cell (World.block_lt_of_cell? w _ hw405_4)).trans hw405_4), ((HB.out.cell (World.block_lt_of_cell? w _ hw405_5)).trans hw405_5)⟩ (fun hHeld => ?_); refine with_tabW r24_All.tab9 r24_All.bits9 (fun HT_ HW_ => ?_)
         generalize wr.drew = w17 at HO_10 BK401 BK402 HB hx405_0 hx405_1 hx405_2 hx405_3 hx405_4 hx405_5 hHeld ⊢
         refine pure_ (i := 2) (N := some 35) (v := ?_) (a' := ?_) #[false, false, true, false, false, false, false, false, false, false, false, false, false, false, false, false, false, false] rfl rfl (any_of HT_.out (by kernel_rfl)) (fun _ _ _ h => h) (Or.inl ⟨by rfl, ?_⟩) ?_ ?_
         rotate_left
         ·intro w'
          go_simp
          with_reducible rfl
         rotate_left
         ·simp only [Act.put, List.setIfInBounds_toArray, List.set_cons_zero, List.set_cons_succ, i64_w, i32_w]
          rfl
         refine pure_ (i := 3) (N := some 36) (v := ?_) (a' := ?_) #[false, false, true, true, false, false, false, false, false, false, false, false, false, false, false, false, false, false] rfl rfl (any_of HT_.out (by kernel_rfl)) (fun _ _ _ h => h) (Or.inl ⟨by rfl, ?_⟩) ?_ ?_
         rotate_left
         ·intro w'
          go_simp
          with_reducible rfl
         rotate_left
         ·simp only [Act.put, List.setIfInBounds_toArray, List.set_cons_zero, List.set_cons_succ, i64_w, i32_w]
          rfl
         refine pure_ (i := 4) (N := some 37) (v := ?_) (a' := ?_) #[false, false, true, true, true, false, false, false, false, false, false, false, false, false, false, false, false, false] rfl rfl (any_of HT_.out (by kernel_rfl)) (fun _ _ _ h => h) (Or.inl ⟨by rfl, ?_⟩) ?_ ?_
         rotate_left
         ·intro w'
          go_simp
          with_reducible rfl
         rotate_left
         ·simp only [Act.put, List.setIfInBounds_toArray, List.set_cons_zero, List.set_cons_succ, i64_w, i32_w]
          rfl
         refine pure_ (i := 5) (N := some 38) (v := ?_) (a' := ?_) #[false, false, true, true, true, true, false, false, false, false, false, false, false, false, false, false, false, false] rfl rfl (any_of HT_.out (by kernel_rfl)) (fun _ _ _ h => h) (Or.inl ⟨by rfl, ?_⟩) ?_ ?_
         rotate_left
         ·intro w'
          go_simp
          with_reducible rfl
         rotate_left
         ·simp only [Act.put, List.setIfInBounds_toArray, List.set_cons_zero, List.set_cons_succ, i64_w, i32_w]
          rfl
         refine take_ (i := 0) (N := some 33) (v := ?_) (a' := ?_) #[true, false, true, true, true, true, false, false, false, false, false, false, false, false, false, false, false, false] rfl rfl (take_ofW HT_.out HW_.out (by kernel_rfl)) (fun _ _ _ h => h) (Or.inl ⟨by rfl, ?_⟩) hHeld ?_ ?_
         rotate_left
         ·rintro w' ⟨s0, s1, s2, s3, s4, s5, s6, s7, s8, s9, s10, s11, s12, s13, s14, s15, s16, s17, s18, s19, s20, s21, s22, s23, s24, s25, s26, s27, s28, s29, s30, s31, s32, s33, s34, s35, s36, s37, s38, s39, s40⟩
          (first | (refine load_cells_24 (ty := 30) (x := .tmp 4) (g := gb402) ?hlo_ ?hx_ Try.underlying30 ?hd_ ?hi_ s11 s12 s13 s14 s15 s16 s17 s18 s19 s20 s21 s22 s23 s24 s25 s26 s27 s28 s29 s30 s31 s32 s33 s34; (case hlo_ => rfl); (case hx_ => rfl); (case hd_ => rfl); (case hi_ => kernel_rfl)) | (go_simp; with_reducible rfl))
         rotate_left
         ·simp only [Act.put, List.setIfInBounds_toArray, List.set_cons_zero, List.set_cons_succ, i64_w, i32_w]
          rfl
         refine take_ (i := 1) (N := some 34) (v := ?_) (a' := ?_) #[true, true, true, true, true, true, false, false, false, false, false, false, false, false, false, false, false, false] rfl rfl (take_ofW HT_.out HW_.out (by kernel_rfl)) (fun _ _ _ h => h) (Or.inl ⟨by rfl, ?_⟩) hHeld ?_ ?_
         rotate_left
         ·rintro w' ⟨s0, s1, s2, s3, s4, s5, s6, s7, s8, s9, s10, s11, s12, s13, s14, s15, s16, s17, s18, s19, s20, s21, s22, s23, s24, s25, s26, s27, s28, s29, s30, s31, s32, s33, s34, s35, s36, s37, s38, s39, s40⟩
          (first | (refine load_cells_24 (ty := 30) (x := .tmp 4) (g := gb402) ?hlo_ ?hx_ Try.underlying30 ?hd_ ?hi_ s11 s12 s13 s14 s15 s16 s17 s18 s19 s20 s21 s22 s23 s24 s25 s26 s27 s28 s29 s30 s31 s32 s33 s34; (case hlo_ => rfl); (case hx_ => rfl); (case hd_ => rfl); (case hi_ => kernel_rfl)) | (go_simp; with_reducible rfl))
         rotate_left
         ·simp only [Act.put, List.setIfInBounds_toArray, List.set_cons_zero, List.set_cons_succ, i64_w, i32_w]
          rfl
         refine take_ (i := 6) (N := some 39) (v := ?_) (a' := ?_) #[true, true, true, true, true, true, true, false, false, false, false, false, false, false, false, false, false, false] rfl rfl (take_ofW HT_.out HW_.out (by kernel_rfl)) (fun _ _ _ h => h) (Or.inl ⟨by rfl, ?_⟩) hHeld ?_ ?_
         rotate_left
         ·rintro w' ⟨s0, s1, s2, s3, s4, s5, s6, s7, s8, s9, s10, s11, s12, s13, s14, s15, s16, s17, s18, s19, s20, s21, s22, s23, s24, s25, s26, s27, s28, s29, s30, s31, s32, s33, s34, s35, s36, s37, s38, s39, s40⟩
          (first | (refine load_cells_24 (ty := 30) (x := .tmp 4) (g := gb402) ?hlo_ ?hx_ Try.underlying30 ?hd_ ?hi_ s11 s12 s13 s14 s15 s16 s17 s18 s19 s20 s21 s22 s23 s24 s25 s26 s27 s28 s29 s30 s31 s32 s33 s34; (case hlo_ => rfl); (case hx_ => rfl); (case hd_ => rfl); (case hi_ => kernel_rfl)) | (go_simp; with_reducible rfl))
         rotate_left
         ·simp only [Act.put, List.setIfInBounds_toArray, List.set_cons_zero, List.set_cons_succ, i64_w, i32_w]
          rfl
         refine join_ (σ := Nat) 4 #[true, true, true, true, true, true, true, true, true, true, true, true, true, true, false, false, false, false] (fun s_ => [(40, .tuple #[.string t406, .string t407, .agg #[.int .i64 t408, .int .i64 t409, .int .i64 t410, .string t411], .int .i64 t412]), (15, .pointer (some ⟨s_, 0, none⟩)), (32, .tuple #[.string t406, .string t407, .agg #[.int .i64 t408, .int .i64 t409, .int .i64 t410, .string t411], .int .i64 t412]), (41, .string t406), (42, .string t407), (43, .agg #[.int .i64 t408, .int .i64 t409, .int .i64 t410, .string t411]), (44, .int .i64 t412)]) (fun s_ w' => (w'.cell? ⟨gb401, 0, none⟩ = some (.int .i64 a0_0) ∧ w'.cell? ⟨gb401, 1, none⟩ = some (.int .i64 a0_1) ∧ w'.cell? ⟨gb401, 2, none⟩ = some (.int .i64 a0_2) ∧ w'.cell? ⟨gb401, 3, none⟩ = some (.int .i64 a0_3) ∧ w'.cell? ⟨gb401, 4, none⟩ = some (.int .i64 a0_4) ∧ w'.cell? ⟨gb401, 5, none⟩ = some (.int .i64 a0_5) ∧ w'.cell? ⟨gb401, 6, none⟩ = some (.int .i64 a0_6) ∧ w'.cell? ⟨gb401, 7, none⟩ = some (.int .i64 a0_7) ∧ w'.cell? ⟨gb401, 8, none⟩ = some (.int .i64 a0_8) ∧ w'.cell? ⟨gb401, 9, none⟩ = some (.int .i64 a0_9) ∧ w'.cell? ⟨gb401, 10, none⟩ = some (.slice A0_10 l0_10.length c0_10) ∧ w'.cell? ⟨gb402, 0, none⟩ = some (.int .i64 a1_0) ∧ w'.cell? ⟨gb402, 1, none⟩ = some (.int .i64 a1_1) ∧ w'.cell? ⟨gb402, 2, none⟩ = some (.int .i64 a1_2) ∧ w'.cell? ⟨gb402, 3, none⟩ = some (.string a1_3) ∧ w'.cell? ⟨gb402, 4, none⟩ = some (.int .i64 a1_4) ∧ w'.cell? ⟨gb402, 5, none⟩ = some (.string a1_5) ∧ w'.cell? ⟨gb402, 6, none⟩ = some (.string a1_6) ∧ w'.cell? ⟨gb402, 7, none⟩ = some (.int .i64 a1_7) ∧ w'.cell? ⟨gb402, 8, none⟩ = some (.int .i64 a1_8) ∧ w'.cell? ⟨gb402, 9, none⟩ = some (.string a1_9) ∧ w'.cell? ⟨gb402, 10, none⟩ = some (.string x403010_1) ∧ w'.cell? ⟨gb402, 11, none⟩ = some (.string x403011_1) ∧ w'.cell? ⟨gb402, 12, none⟩ = some (.string a1_12) ∧ w'.cell? ⟨gb402, 13, none⟩ = some (.string a1_13) ∧ w'.cell? ⟨gb402, 14, none⟩ = some (.string a1_14) ∧ w'.cell? ⟨gb402, 15, none⟩ = some (.slice A1_15 l1_15.length c1_15) ∧ w'.cell? ⟨gb402, 16, none⟩ = some (.slice A1_16 l1_16.length c1_16) ∧ w'.cell? ⟨gb402, 17, none⟩ = some (.slice A1_17 l1_17.length c1_17) ∧ w'.cell? ⟨gb402, 18, none⟩ = some (.int .i64 a1_18) ∧ w'.cell? ⟨gb402, 19, none⟩ = some (.int .i64 a1_19) ∧ w'.cell? ⟨gb402, 20, none⟩ = some (.int .i64 a1_20) ∧ w'.cell? ⟨gb402, 21, none⟩ = some (.int .i64 a1_21) ∧ w'.cell? ⟨gb402, 22, none⟩ = some (.int .i64 a1_22) ∧ w'.cell? ⟨gb402, 23, none⟩ = some (.int .i64 a1_23) ∧ w'.cell? (ad404.add ((x12_1).toNat * 6)) = some (.string ((rd_T32 l2 x12_1).f0)) ∧ w'.cell? ⟨(ad404.add ((x12_1).toNat * 6)).block, (ad404.add ((x12_1).toNat * 6)).off + 1, none⟩ = some (.int .i64 ((rd_T32 l2 x12_1).f1)) ∧ w'.cell? ⟨(ad404.add ((x12_1).toNat * 6)).block, (ad404.add ((x12_1).toNat * 6)).off + 2, none⟩ = some (.string ((rd_T32 l2 x12_1).f2)) ∧ w'.cell? ⟨(ad404.add ((x12_1).toNat * 6)).block, (ad404.add ((x12_1).toNat * 6)).off + 3, none⟩ = some (.int .i64 ((rd_T32 l2 x12_1).f3)) ∧ w'.cell? ⟨(ad404.add ((x12_1).toNat * 6)).block, (ad404.add ((x12_1).toNat * 6)).off + 4, none⟩ = some (.int .i64 ((rd_T32 l2 x12_1).f4)) ∧ w'.cell? ⟨(ad404.add ((x12_1).toNat * 6)).block, (ad404.add ((x12_1).toNat * 6)).off + 5, none⟩ = some (.string ((rd_T32 l2 x12_1).f5))) ∧ (Kd.R k35 35 w' w.heap.size (fun k_ => k_ ≠ s_) u10 x10_1) ∧ (w'.heap[gb401]? = some (.cells #[.int .i64 a0_0, .int .i64 a0_1, .int .i64 a0_2, .int .i64 a0_3, .int .i64 a0_4, .int .i64 a0_5, .int .i64 a0_6, .int .i64 a0_7, .int .i64 a0_8, .int .i64 a0_9, .slice A0_10 l0_10.length c0_10] 24 (0, 0))) ∧ (w'.heap[gb402]? = some (.cells #[.int .i64 a1_0, .int .i64 a1_1, .int .i64 a1_2, .string a1_3, .int .i64 a1_4, .string a1_5, .string a1_6, .int .i64 a1_7, .int .i64 a1_8, .string a1_9, .string x403010_1, .string x403011_1, .string a1_12, .string a1_13, .string a1_14, .slice A1_15 l1_15.length c1_15, .slice A1_16 l1_16.length c1_16, .slice A1_17 l1_17.length c1_17, .int .i64 a1_18, .int .i64 a1_19, .int .i64 a1_20, .int .i64 a1_21, .int .i64 a1_22, .int .i64 a1_23] 30 (0, 0))) ∧ (w'.heap[s_]? = some (.cells #[.int .i64 0, .int .i64 0, .int .i64 0, .string (⟨#[]⟩ : ByteArray)] 35 (0, 0))) ∧ (w.heap.size ≤ s_) ∧ (w.heap.size ≤ s_) ∧ (gb401 ≠ s_) ∧ (s_ ≠ gb401) ∧ (gb402 ≠ s_) ∧ (s_ ≠ gb402) ∧ (Below w.heap.size w w')) ?_ ?_
         rotate_left
         ·intro hCont
          refine two_ (i := 7) (j := 13) (Ni := some 40) (Nj := some 15) #[true, true, true, true, true, true, true, true, false, false, false, false, false, false, false, false, false, false] #[true, true, true, true, true, true, true, false, false, false, false, false, false, true, false, false, false, false] rfl rfl rfl rfl (two_of HT_.out (by kernel_rfl)) (by decide) (by decide) (fun K hK => ?_) (fun K hK => ?_)
          ·skip
           refine goes_ Try.func9 (by kernel_rfl) rfl #[.agg #[.int .i64 a0_0, .int .i64 a0_1, .int .i64 a0_2, .int .i64 a0_3, .int .i64 a0_4, .int .i64 a0_5, .int .i64 a0_6, .int .i64 a0_7, .int .i64 a0_8, .int .i64 a0_9, .slice A0_10 l0_10.length c0_10], .agg #[.int .i64 a1_0, .int .i64 a1_1, .int .i64 a1_2, .string a1_3, .int .i64 a1_4, .string a1_5, .string a1_6, .int .i64 a1_7, .int .i64 a1_8, .string a1_9, .string x403010_1, .string x403011_1, .string a1_12, .string a1_13, .string a1_14, .slice A1_15 l1_15.length c1_15, .slice A1_16 l1_16.length c1_16, .slice A1_17 l1_17.length c1_17, .int .i64 a1_18, .int .i64 a1_19, .int .i64 a1_20, .int .i64 a1_21, .int .i64 a1_22, .int .i64 a1_23], .int .i64 x12_1, .agg #[.string ((rd_T32 l2 x12_1).f0), .int .i64 ((rd_T32 l2 x12_1).f1), .string ((rd_T32 l2 x12_1).f2), .int .i64 ((rd_T32 l2 x12_1).f3), .int .i64 ((rd_T32 l2 x12_1).f4), .string ((rd_T32 l2 x12_1).f5)]] (by rfl) rfl rfl (by (try simp only [List.map_toArray, List.map_cons, List.map_nil]); first | done | rfl) ?_
           with_reducible refine (r24_Take.calls k1 a0_0 a0_1 a0_2 a0_3 a0_4 a0_5 a0_6 a0_7 a0_8 a0_9 _ _ l0_10 a1_0 a1_1 a1_2 a1_3 a1_4 a1_5 a1_6 a1_7 a1_8 a1_9 x403010_1 x403011_1 a1_12 a1_13 a1_14 _ _ l1_15 _ _ l1_16 _ _ l1_17 a1_18 a1_19 a1_20 a1_21 a1_22 a1_23 x12_1 ((rd_T32 l2 x12_1).f0) ((rd_T32 l2 x12_1).f1) ((rd_T32 l2 x12_1).f2) ((rd_T32 l2 x12_1).f3) ((rd_T32 l2 x12_1).f4) ((rd_T32 l2 x12_1).f5) t406 t407 t408 t409 t410 t411 t412 _ ?side1 ?side2 ?side3 ?side4 ?side5 ?side6 ?side7 ?side8 A14.out).mono ?_
           (case side1 => exact (Kd.C_below HR0_10.out HB.out))
           (case side2 => exact HC0_10.out)
           (case side3 => exact (Kd.C_below HR1_15.out HB.out))
           (case side4 => exact HC1_15.out)
           (case side5 => exact (Kd.C_below HR1_16.out HB.out))
           (case side6 => exact HC1_16.out)
           (case side7 => exact (Kd.C_below HR1_17.out HB.out))
           (case side8 => exact HC1_17.out)
           rintro e w18 ⟨rfl, hb⟩
           refine ⟨_, rfl, ?_⟩
           replace HO_10 := Aside0.mk (Kd.R_below HO_10.out hb)
           replace BK401 := Aside0.mk (blk_below BK401.out hb)
           replace BK402 := Aside0.mk (blk_below BK402.out hb)
           replace HB := Aside0.mk (below_step HB.out hb)
           (try clear hb)
           (try clear hb2)
           (try clear hk)
           (try clear hi)
           refine hK.out _ _ (and_11 BK401.out (and_24 BK402.out ⟨((HB.out.cell (World.block_lt_of_cell? w _ hw405_0)).trans hw405_0), ((HB.out.cell (World.block_lt_of_cell? w _ hw405_1)).trans hw405_1), ((HB.out.cell (World.block_lt_of_cell? w _ hw405_2)).trans hw405_2), ((HB.out.cell (World.block_lt_of_cell? w _ hw405_3)).trans hw405_3), ((HB.out.cell (World.block_lt_of_cell? w _ hw405_4)).trans hw405_4), ((HB.out.cell (World.block_lt_of_cell? w _ hw405_5)).trans hw405_5)⟩)) (fun hHeld => ?_)
           clear hK K
           refine norm_ (a' := ?_) ?_ ?_
           rotate_left
           ·show Act.put _ (some 40) _ = _
            simp only [Act.put, List.setIfInBounds_toArray, List.set_cons_zero, List.set_cons_succ, i64_w, i32_w]
            rfl
           refine pure_ (i := 8) (N := some 32) (v := ?_) (a' := ?_) #[true, true, true, true, true, true, true, true, true, false, false, false, false, false, false, false, false, false] rfl rfl (any_of HT_.out (by kernel_rfl)) (fun _ _ _ h => h) (Or.inl ⟨by rfl, ?_⟩) ?_ ?_
           rotate_left
           ·intro w'
            go_simp
            with_reducible rfl
           rotate_left
           ·simp only [Act.put, List.setIfInBounds_toArray, List.set_cons_zero, List.set_cons_succ, i64_w, i32_w]
            rfl
           refine pure_ (i := 9) (N := some 41) (v := ?_) (a' := ?_) #[true, true, true, true, true, true, true, true, true, true, false, false, false, false, false, false, false, false] rfl rfl (any_of HT_.out (by kernel_rfl)) (fun _ _ _ h => h) (Or.inl ⟨by rfl, ?_⟩) ?_ ?_
           rotate_left
           ·intro w'
            go_simp
            with_reducible rfl
           rotate_left
           ·simp only [Act.put, List.setIfInBounds_toArray, List.set_cons_zero, List.set_cons_succ, i64_w, i32_w]
            rfl
           refine pure_ (i := 10) (N := some 42) (v := ?_) (a' := ?_) #[true, true, true, true, true, true, true, true, true, true, true, false, false, false, false, false, false, false] rfl rfl (any_of HT_.out (by kernel_rfl)) (fun _ _ _ h => h) (Or.inl ⟨by rfl, ?_⟩) ?_ ?_
           rotate_left
           ·intro w'
            go_simp
            with_reducible rfl
           rotate_left
           ·simp only [Act.put, List.setIfInBounds_toArray, List.set_cons_zero, List.set_cons_succ, i64_w, i32_w]
            rfl
           refine pure_ (i := 11) (N := some 43) (v := ?_) (a' := ?_) #[true, true, true, true, true, true, true, true, true, true, true, true, false, false, false, false, false, false] rfl rfl (any_of HT_.out (by kernel_rfl)) (fun _ _ _ h => h) (Or.inl ⟨by rfl, ?_⟩) ?_ ?_
           rotate_left
           ·intro w'
            go_simp
            with_reducible rfl
           rotate_left
           ·simp only [Act.put, List.setIfInBounds_toArray, List.set_cons_zero, List.set_cons_succ, i64_w, i32_w]
            rfl
           refine pure_ (i := 12) (N := some 44) (v := ?_) (a' := ?_) #[true, true, true, true, true, true, true, true, true, true, true, true, true, false, false, false, false, false] rfl rfl (any_of HT_.out (by kernel_rfl)) (fun _ _ _ h => h) (Or.inl ⟨by rfl, ?_⟩) ?_ ?_
           rotate_left
           ·intro w'
            go_simp
            with_reducible rfl
           rotate_left
           ·simp only [Act.put, List.setIfInBounds_toArray, List.set_cons_zero, List.set_cons_succ, i64_w, i32_w]
            rfl
           refine one_ (i := 13) (N := some 15) #[true, true, true, true, true, true, true, true, true, true, true, true, true, true, false, false, false, false] rfl rfl (one_of HT_.out (by kernel_rfl)) (by decide) (fun K hK => ?_)
           refine box_step ?hg (N := 15) ?hd (cs := #[.int .i64 0, .int .i64 0, .int .i64 0, .string (⟨#[]⟩ : ByteArray)]) (t := 35) ?hr ?_; (case hd => rfl); (case hg => rfl); (case hr => first | (go_simp; done) | (go_simp; rfl))
           intro gb413 hg w19 hbox hb
           replace HO_10 := Aside0.mk (Kd.R_below (Kd.R_elderB (by (with_reducible repeat (first | apply Kd.R_alloc | apply Kd.R_drewN | apply Kd.R_drew)); exact HO_10.out) gb413 (Nat.le_of_eq hg.symm)) hb)
           have BK413 := Aside0.mk (hbox)
           have GW413 := Aside0.mk ((by rw [hg]; exact (below_size HB.out) : w.heap.size ≤ gb413))
           have GE413 := GW413
           replace HB := Aside0.mk (below_step HB.out hb)
           have NB401_413 := Aside0.mk ((by rw [hg]; exact Nat.ne_of_lt (blk_lt BK401.out) : gb401 ≠ gb413))
           have NB413_401 := Aside0.mk NB401_413.out.symm
           replace BK401 := Aside0.mk (blk_below BK401.out hb)
           have NB402_413 := Aside0.mk ((by rw [hg]; exact Nat.ne_of_lt (blk_lt BK402.out) : gb402 ≠ gb413))
           have NB413_402 := Aside0.mk NB402_413.out.symm
           replace BK402 := Aside0.mk (blk_below BK402.out hb)
           clear hb hbox hg
           refine hK.out _ _ (and_11 BK401.out (and_24 BK402.out ⟨((HB.out.cell (World.block_lt_of_cell? w _ hw405_0)).trans hw405_0), ((HB.out.cell (World.block_lt_of_cell? w _ hw405_1)).trans hw405_1), ((HB.out.cell (World.block_lt_of_cell? w _ hw405_2)).trans hw405_2), ((HB.out.cell (World.block_lt_of_cell? w _ hw405_3)).trans hw405_3), ((HB.out.cell (World.block_lt_of_cell? w _ hw405_4)).trans hw405_4), ((HB.out.cell (World.block_lt_of_cell? w _ hw405_5)).trans hw405_5)⟩)) (fun hHeld => ?_)
           clear hK K
           refine norm_ (a' := ?_) ?_ ?_
           rotate_left
           ·show Act.put _ (some 15) _ = _
            simp only [Act.put, List.setIfInBounds_toArray, List.set_cons_zero, List.set_cons_succ, i64_w, i32_w]
            rfl
           exact norm_ (by simp only [putAll, Act.put, List.setIfInBounds_toArray, List.set_cons_zero, List.set_cons_succ]) (hCont (gb413) _ ⟨hHeld, (by (with_reducible repeat (first | apply Kd.R_alloc | apply Kd.R_drewN | apply Kd.R_drew)); exact Kd.R_mono HO_10.out (fun _ hk => hk.2)), (by (with_reducible repeat (first | refine blk_drewN ?_ _ | refine blk_drew ?_ | refine blk_alloc ?_ _)); exact BK401.out), (by (with_reducible repeat (first | refine blk_drewN ?_ _ | refine blk_drew ?_ | refine blk_alloc ?_ _)); exact BK402.out), (by (with_reducible repeat (first | refine blk_drewN ?_ _ | refine blk_drew ?_ | refine blk_alloc ?_ _)); exact BK413.out), GW413.out, GE413.out, NB401_413.out, NB413_401.out, NB402_413.out, NB413_402.out, (by repeat (first | (with_reducible first | exact HB.out | apply below_alloc | apply pw_below_drewN | apply below_drew1 | refine below_set ?_ GE401.out | refine below_set ?_ GE402.out | refine below_set ?_ GE413.out) | exact HB.out))⟩)
          ·skip
           refine box_step ?hg (N := 15) ?hd (cs := #[.int .i64 0, .int .i64 0, .int .i64 0, .string (⟨#[]⟩ : ByteArray)]) (t := 35) ?hr ?_; (case hd => rfl); (case hg => rfl); (case hr => first | (go_simp; done) | (go_simp; rfl))
           intro gb413 hg w18 hbox hb
           replace HO_10 := Aside0.mk (Kd.R_below (Kd.R_elderB (by (with_reducible repeat (first | apply Kd.R_alloc | apply Kd.R_drewN | apply Kd.R_drew)); exact HO_10.out) gb413 (Nat.le_of_eq hg.symm)) hb)
           have BK413 := Aside0.mk (hbox)
           have GW413 := Aside0.mk ((by rw [hg]; exact (below_size HB.out) : w.heap.size ≤ gb413))
           have GE413 := GW413
           replace HB := Aside0.mk (below_step HB.out hb)
           have NB401_413 := Aside0.mk ((by rw [hg]; exact Nat.ne_of_lt (blk_lt BK401.out) : gb401 ≠ gb413))
           have NB413_401 := Aside0.mk NB401_413.out.symm
           replace BK401 := Aside0.mk (blk_below BK401.out hb)
           have NB402_413 := Aside0.mk ((by rw [hg]; exact Nat.ne_of_lt (blk_lt BK402.out) : gb402 ≠ gb413))
           have NB413_402 := Aside0.mk NB402_413.out.symm
           replace BK402 := Aside0.mk (blk_below BK402.out hb)
           clear hb hbox hg
           refine hK.out _ _ (and_11 BK401.out (and_24 BK402.out ⟨((HB.out.cell (World.block_lt_of_cell? w _ hw405_0)).trans hw405_0), ((HB.out.cell (World.block_lt_of_cell? w _ hw405_1)).trans hw405_1), ((HB.out.cell (World.block_lt_of_cell? w _ hw405_2)).trans hw405_2), ((HB.out.cell (World.block_lt_of_cell? w _ hw405_3)).trans hw405_3), ((HB.out.cell (World.block_lt_of_cell? w _ hw405_4)).trans hw405_4), ((HB.out.cell (World.block_lt_of_cell? w _ hw405_5)).trans hw405_5)⟩)) (fun hHeld => ?_)
           clear hK K
           refine norm_ (a' := ?_) ?_ ?_
           rotate_left
           ·show Act.put _ (some 15) _ = _
            simp only [Act.put, List.setIfInBounds_toArray, List.set_cons_zero, List.set_cons_succ, i64_w, i32_w]
            rfl
           refine one_ (i := 7) (N := some 40) #[true, true, true, true, true, true, true, true, false, false, false, false, false, true, false, false, false, false] rfl rfl (one_of HT_.out (by kernel_rfl)) (by decide) (fun K hK => ?_)
           refine goes_ Try.func9 (by kernel_rfl) rfl #[.agg #[.int .i64 a0_0, .int .i64 a0_1, .int .i64 a0_2, .int .i64 a0_3, .int .i64 a0_4, .int .i64 a0_5, .int .i64 a0_6, .int .i64 a0_7, .int .i64 a0_8, .int .i64 a0_9, .slice A0_10 l0_10.length c0_10], .agg #[.int .i64 a1_0, .int .i64 a1_1, .int .i64 a1_2, .string a1_3, .int .i64 a1_4, .string a1_5, .string a1_6, .int .i64 a1_7, .int .i64 a1_8, .string a1_9, .string x403010_1, .string x403011_1, .string a1_12, .string a1_13, .string a1_14, .slice A1_15 l1_15.length c1_15, .slice A1_16 l1_16.length c1_16, .slice A1_17 l1_17.length c1_17, .int .i64 a1_18, .int .i64 a1_19, .int .i64 a1_20, .int .i64 a1_21, .int .i64 a1_22, .int .i64 a1_23], .int .i64 x12_1, .agg #[.string ((rd_T32 l2 x12_1).f0), .int .i64 ((rd_T32 l2 x12_1).f1), .string ((rd_T32 l2 x12_1).f2), .int .i64 ((rd_T32 l2 x12_1).f3), .int .i64 ((rd_T32 l2 x12_1).f4), .string ((rd_T32 l2 x12_1).f5)]] (by rfl) rfl rfl (by (try simp only [List.map_toArray, List.map_cons, List.map_nil]); first | done | rfl) ?_
           with_reducible refine (r24_Take.calls k1 a0_0 a0_1 a0_2 a0_3 a0_4 a0_5 a0_6 a0_7 a0_8 a0_9 _ _ l0_10 a1_0 a1_1 a1_2 a1_3 a1_4 a1_5 a1_6 a1_7 a1_8 a1_9 x403010_1 x403011_1 a1_12 a1_13 a1_14 _ _ l1_15 _ _ l1_16 _ _ l1_17 a1_18 a1_19 a1_20 a1_21 a1_22 a1_23 x12_1 ((rd_T32 l2 x12_1).f0) ((rd_T32 l2 x12_1).f1) ((rd_T32 l2 x12_1).f2) ((rd_T32 l2 x12_1).f3) ((rd_T32 l2 x12_1).f4) ((rd_T32 l2 x12_1).f5) t406 t407 t408 t409 t410 t411 t412 _ ?side1 ?side2 ?side3 ?side4 ?side5 ?side6 ?side7 ?side8 A14.out).mono ?_
           (case side1 => exact (Kd.C_below HR0_10.out HB.out))
           (case side2 => exact HC0_10.out)
           (case side3 => exact (Kd.C_below HR1_15.out HB.out))
           (case side4 => exact HC1_15.out)
           (case side5 => exact (Kd.C_below HR1_16.out HB.out))
           (case side6 => exact HC1_16.out)
           (case side7 => exact (Kd.C_below HR1_17.out HB.out))
           (case side8 => exact HC1_17.out)
           rintro e w19 ⟨rfl, hb⟩
           refine ⟨_, rfl, ?_⟩
           replace HO_10 := Aside0.mk (Kd.R_below HO_10.out hb)
           replace BK401 := Aside0.mk (blk_below BK401.out hb)
           replace BK402 := Aside0.mk (blk_below BK402.out hb)
           replace BK413 := Aside0.mk (blk_below BK413.out hb)
           replace HB := Aside0.mk (below_step HB.out hb)
           (try clear hb)
           (try clear hb2)
           (try clear hk)
           (try clear hi)
           refine hK.out _ _ (and_11 BK401.out (and_24 BK402.out ⟨((HB.out.cell (World.block_lt_of_cell? w _ hw405_0)).trans hw405_0), ((HB.out.cell (World.block_lt_of_cell? w _ hw405_1)).trans hw405_1), ((HB.out.cell (World.block_lt_of_cell? w _ hw405_2)).trans hw405_2), ((HB.out.cell (World.block_lt_of_cell? w _ hw405_3)).trans hw405_3), ((HB.out.cell (World.block_lt_of_cell? w _ hw405_4)).trans hw405_4), ((HB.out.cell (World.block_lt_of_cell? w _ hw405_5)).trans hw405_5)⟩)) (fun hHeld => ?_)
           clear hK K
           refine norm_ (a' := ?_) ?_ ?_
           rotate_left
           ·show Act.put _ (some 40) _ = _
            simp only [Act.put, List.setIfInBounds_toArray, List.set_cons_zero, List.set_cons_succ, i64_w, i32_w]
            rfl
           refine pure_ (i := 8) (N := some 32) (v := ?_) (a' := ?_) #[true, true, true, true, true, true, true, true, true, false, false, false, false, true, false, false, false, false] rfl rfl (any_of HT_.out (by kernel_rfl)) (fun _ _ _ h => h) (Or.inl ⟨by rfl, ?_⟩) ?_ ?_
           rotate_left
           ·intro w'
            go_simp
            with_reducible rfl
           rotate_left
           ·simp only [Act.put, List.setIfInBounds_toArray, List.set_cons_zero, List.set_cons_succ, i64_w, i32_w]
            rfl
           refine pure_ (i := 9) (N := some 41) (v := ?_) (a' := ?_) #[true, true, true, true, true, true, true, true, true, true, false, false, false, true, false, false, false, false] rfl rfl (any_of HT_.out (by kernel_rfl)) (fun _ _ _ h => h) (Or.inl ⟨by rfl, ?_⟩) ?_ ?_
           rotate_left
           ·intro w'
            go_simp
            with_reducible rfl
           rotate_left
           ·simp only [Act.put, List.setIfInBounds_toArray, List.set_cons_zero, List.set_cons_succ, i64_w, i32_w]
            rfl
           refine pure_ (i := 10) (N := some 42) (v := ?_) (a' := ?_) #[true, true, true, true, true, true, true, true, true, true, true, false, false, true, false, false, false, false] rfl rfl (any_of HT_.out (by kernel_rfl)) (fun _ _ _ h => h) (Or.inl ⟨by rfl, ?_⟩) ?_ ?_
           rotate_left
           ·intro w'
            go_simp
            with_reducible rfl
           rotate_left
           ·simp only [Act.put, List.setIfInBounds_toArray, List.set_cons_zero, List.set_cons_succ, i64_w, i32_w]
            rfl
           refine pure_ (i := 11) (N := some 43) (v := ?_) (a' := ?_) #[true, true, true, true, true, true, true, true, true, true, true, true, false, true, false, false, false, false] rfl rfl (any_of HT_.out (by kernel_rfl)) (fun _ _ _ h => h) (Or.inl ⟨by rfl, ?_⟩) ?_ ?_
           rotate_left
           ·intro w'
            go_simp
            with_reducible rfl
           rotate_left
           ·simp only [Act.put, List.setIfInBounds_toArray, List.set_cons_zero, List.set_cons_succ, i64_w, i32_w]
            rfl
           refine pure_ (i := 12) (N := some 44) (v := ?_) (a' := ?_) #[true, true, true, true, true, true, true, true, true, true, true, true, true, true, false, false, false, false] rfl rfl (any_of HT_.out (by kernel_rfl)) (fun _ _ _ h => h) (Or.inl ⟨by rfl, ?_⟩) ?_ ?_
           rotate_left
           ·intro w'
            go_simp
            with_reducible rfl
           rotate_left
           ·simp only [Act.put, List.setIfInBounds_toArray, List.set_cons_zero, List.set_cons_succ, i64_w, i32_w]
            rfl
           exact norm_ (by simp only [putAll, Act.put, List.setIfInBounds_toArray, List.set_cons_zero, List.set_cons_succ]) (hCont (gb413) _ ⟨hHeld, (by (with_reducible repeat (first | apply Kd.R_alloc | apply Kd.R_drewN | apply Kd.R_drew)); exact Kd.R_mono HO_10.out (fun _ hk => hk.2)), (by (with_reducible repeat (first | refine blk_drewN ?_ _ | refine blk_drew ?_ | refine blk_alloc ?_ _)); exact BK401.out), (by (with_reducible repeat (first | refine blk_drewN ?_ _ | refine blk_drew ?_ | refine blk_alloc ?_ _)); exact BK402.out), (by (with_reducible repeat (first | refine blk_drewN ?_ _ | refine blk_drew ?_ | refine blk_alloc ?_ _)); exact BK413.out), GW413.out, GE413.out, NB401_413.out, NB413_401.out, NB402_413.out, NB413_402.out, (by repeat (first | (with_reducible first | exact HB.out | apply below_alloc | apply pw_below_drewN | apply below_drew1 | refine below_set ?_ GE401.out | refine below_set ?_ GE402.out | refine below_set ?_ GE413.out) | exact HB.out))⟩)
         rintro gb413 w20 ⟨hS_, h0_, h1_, h2_, h3_, h4_, h5_, h6_, h7_, h8_, h9_, h10_⟩
         have n0_ : Aside0 (Kd.R k35 35 w20 w.heap.size (fun k_ => k_ ≠ gb413) u10 x10_1) := ⟨h0_⟩
         have n1_ : Aside0 (w20.heap[gb401]? = some (.cells #[.int .i64 a0_0, .int .i64 a0_1, .int .i64 a0_2, .int .i64 a0_3, .int .i64 a0_4, .int .i64 a0_5, .int .i64 a0_6, .int .i64 a0_7, .int .i64 a0_8, .int .i64 a0_9, .slice A0_10 l0_10.length c0_10] 24 (0, 0))) := ⟨h1_⟩
         have n2_ : Aside0 (w20.heap[gb402]? = some (.cells #[.int .i64 a1_0, .int .i64 a1_1, .int .i64 a1_2, .string a1_3, .int .i64 a1_4, .string a1_5, .string a1_6, .int .i64 a1_7, .int .i64 a1_8, .string a1_9, .string x403010_1, .string x403011_1, .string a1_12, .string a1_13, .string a1_14, .slice A1_15 l1_15.length c1_15, .slice A1_16 l1_16.length c1_16, .slice A1_17 l1_17.length c1_17, .int .i64 a1_18, .int .i64 a1_19, .int .i64 a1_20, .int .i64 a1_21, .int .i64 a1_22, .int .i64 a1_23] 30 (0, 0))) := ⟨h2_⟩
         have n3_ : Aside0 (w20.heap[gb413]? = some (.cells #[.int .i64 0, .int .i64 0, .int .i64 0, .string (⟨#[]⟩ : ByteArray)] 35 (0, 0))) := ⟨h3_⟩
         have n4_ : Aside0 (w.heap.size ≤ gb413) := ⟨h4_⟩
         have n5_ : Aside0 (w.heap.size ≤ gb413) := ⟨h5_⟩
         have n6_ : Aside0 (gb401 ≠ gb413) := ⟨h6_⟩
         have n7_ : Aside0 (gb413 ≠ gb401) := ⟨h7_⟩
         have n8_ : Aside0 (gb402 ≠ gb413) := ⟨h8_⟩
         have n9_ : Aside0 (gb413 ≠ gb402) := ⟨h9_⟩
         have n10_ : Aside0 (Below w.heap.size w w20) := ⟨h10_⟩
         clear HO_10
         clear BK401
         clear BK402
         clear HB
         clear h0_ h1_ h2_ h3_ h4_ h5_ h6_ h7_ h8_ h9_ h10_
         have HO_10 := n0_
         have BK401 := n1_
         have BK402 := n2_
         have BK413 := n3_
         have GW413 := n4_
         have GE413 := n5_
         have NB401_413 := n6_
         have NB413_401 := n7_
         have NB402_413 := n8_
         have NB413_402 := n9_
         have HB := n10_
         clear n0_ n1_ n2_ n3_ n4_ n5_ n6_ n7_ n8_ n9_ n10_
         have hHeld : w20.cell? ⟨gb401, 0, none⟩ = some (.int .i64 a0_0) ∧ w20.cell? ⟨gb401, 1, none⟩ = some (.int .i64 a0_1) ∧ w20.cell? ⟨gb401, 2, none⟩ = some (.int .i64 a0_2) ∧ w20.cell? ⟨gb401, 3, none⟩ = some (.int .i64 a0_3) ∧ w20.cell? ⟨gb401, 4, none⟩ = some (.int .i64 a0_4) ∧ w20.cell? ⟨gb401, 5, none⟩ = some (.int .i64 a0_5) ∧ w20.cell? ⟨gb401, 6, none⟩ = some (.int .i64 a0_6) ∧ w20.cell? ⟨gb401, 7, none⟩ = some (.int .i64 a0_7) ∧ w20.cell? ⟨gb401, 8, none⟩ = some (.int .i64 a0_8) ∧ w20.cell? ⟨gb401, 9, none⟩ = some (.int .i64 a0_9) ∧ w20.cell? ⟨gb401, 10, none⟩ = some (.slice A0_10 l0_10.length c0_10) ∧ w20.cell? ⟨gb402, 0, none⟩ = some (.int .i64 a1_0) ∧ w20.cell? ⟨gb402, 1, none⟩ = some (.int .i64 a1_1) ∧ w20.cell? ⟨gb402, 2, none⟩ = some (.int .i64 a1_2) ∧ w20.cell? ⟨gb402, 3, none⟩ = some (.string a1_3) ∧ w20.cell? ⟨gb402, 4, none⟩ = some (.int .i64 a1_4) ∧ w20.cell? ⟨gb402, 5, none⟩ = some (.string a1_5) ∧ w20.cell? ⟨gb402, 6, none⟩ = some (.string a1_6) ∧ w20.cell? ⟨gb402, 7, none⟩ = some (.int .i64 a1_7) ∧ w20.cell? ⟨gb402, 8, none⟩ = some (.int .i64 a1_8) ∧ w20.cell? ⟨gb402, 9, none⟩ = some (.string a1_9) ∧ w20.cell? ⟨gb402, 10, none⟩ = some (.string x403010_1) ∧ w20.cell? ⟨gb402, 11, none⟩ = some (.string x403011_1) ∧ w20.cell? ⟨gb402, 12, none⟩ = some (.string a1_12) ∧ w20.cell? ⟨gb402, 13, none⟩ = some (.string a1_13) ∧ w20.cell? ⟨gb402, 14, none⟩ = some (.string a1_14) ∧ w20.cell? ⟨gb402, 15, none⟩ = some (.slice A1_15 l1_15.length c1_15) ∧ w20.cell? ⟨gb402, 16, none⟩ = some (.slice A1_16 l1_16.length c1_16) ∧ w20.cell? ⟨gb402, 17, none⟩ = some (.slice A1_17 l1_17.length c1_17) ∧ w20.cell? ⟨gb402, 18, none⟩ = some (.int .i64 a1_18) ∧ w20.cell? ⟨gb402, 19, none⟩ = some (.int .i64 a1_19) ∧ w20.cell? ⟨gb402, 20, none⟩ = some (.int .i64 a1_20) ∧ w20.cell? ⟨gb402, 21, none⟩ = some (.int .i64 a1_21) ∧ w20.cell? ⟨gb402, 22, none⟩ = some (.int .i64 a1_22) ∧ w20.cell? ⟨gb402, 23, none⟩ = some (.int .i64 a1_23) ∧ w20.cell? (ad404.add ((x12_1).toNat * 6)) = some (.string ((rd_T32 l2 x12_1).f0)) ∧ w20.cell? ⟨(ad404.add ((x12_1).toNat * 6)).block, (ad404.add ((x12_1).toNat * 6)).off + 1, none⟩ = some (.int .i64 ((rd_T32 l2 x12_1).f1)) ∧ w20.cell? ⟨(ad404.add ((x12_1).toNat * 6)).block, (ad404.add ((x12_1).toNat * 6)).off + 2, none⟩ = some (.string ((rd_T32 l2 x12_1).f2)) ∧ w20.cell? ⟨(ad404.add ((x12_1).toNat * 6)).block, (ad404.add ((x12_1).toNat * 6)).off + 3, none⟩ = some (.int .i64 ((rd_T32 l2 x12_1).f3)) ∧ w20.cell? ⟨(ad404.add ((x12_1).toNat * 6)).block, (ad404.add ((x12_1).toNat * 6)).off + 4, none⟩ = some (.int .i64 ((rd_T32 l2 x12_1).f4)) ∧ w20.cell? ⟨(ad404.add ((x12_1).toNat * 6)).block, (ad404.add ((x12_1).toNat * 6)).off + 5, none⟩ = some (.string ((rd_T32 l2 x12_1).f5)) := hS_
         refine norm_ (a' := ?_) ?_ ?_
         rotate_left
         ·simp only [putAll, Act.put, List.setIfInBounds_toArray, List.set_cons_zero, List.set_cons_succ]
          rfl
         refine pure_ (i := 14) (N := some 13) (v := ?_) (a' := ?_) #[true, true, true, true, true, true, true, true, true, true, true, true, true, true, true, false, false, false] rfl rfl (any_of HT_.out (by kernel_rfl)) (fun _ _ _ h => h) (Or.inl ⟨by rfl, ?_⟩) ?_ ?_
         rotate_left
         ·intro w'
          go_simp
          with_reducible rfl
         rotate_left
         ·simp only [Act.put, List.setIfInBounds_toArray, List.set_cons_zero, List.set_cons_succ, i64_w, i32_w]
          rfl
         refine pure_ (i := 15) (N := some 14) (v := ?_) (a' := ?_) #[true, true, true, true, true, true, true, true, true, true, true, true, true, true, true, true, false, false] rfl rfl (any_of HT_.out (by kernel_rfl)) (fun _ _ _ h => h) (Or.inl ⟨by rfl, ?_⟩) ?_ ?_
         rotate_left
         ·intro w'
          go_simp
          with_reducible rfl
         rotate_left
         ·simp only [Act.put, List.setIfInBounds_toArray, List.set_cons_zero, List.set_cons_succ, i64_w, i32_w]
          rfl
         refine one_ (i := 16) (N := none) #[true, true, true, true, true, true, true, true, true, true, true, true, true, true, true, true, true, false] rfl rfl (one_of HT_.out (by kernel_rfl)) (by decide) (fun K hK => ?_)
         have hs21 : w20.cell? ⟨gb413, 0, none⟩ = some (.int .i64 0) := (blk_cell BK413.out 0).trans rfl
         have hfs21 := blk_frozen BK413.out 0
         have hns21_0 := NB401_413.out
         have hns21_1 := NB402_413.out
         have hms21_0 := NB413_401.out
         have hms21_1 := NB413_402.out
         have hs22 : w20.cell? ⟨gb413, 1, none⟩ = some (.int .i64 0) := (blk_cell BK413.out 1).trans rfl
         have hfs22 := blk_frozen BK413.out 1
         have hns22_0 := NB401_413.out
         have hns22_1 := NB402_413.out
         have hms22_0 := NB413_401.out
         have hms22_1 := NB413_402.out
         have hs23 : w20.cell? ⟨gb413, 2, none⟩ = some (.int .i64 0) := (blk_cell BK413.out 2).trans rfl
         have hfs23 := blk_frozen BK413.out 2
         have hns23_0 := NB401_413.out
         have hns23_1 := NB402_413.out
         have hms23_0 := NB413_401.out
         have hms23_1 := NB413_402.out
         have hs24 : w20.cell? ⟨gb413, 3, none⟩ = some (.string (⟨#[]⟩ : ByteArray)) := (blk_cell BK413.out 3).trans rfl
         have hfs24 := blk_frozen BK413.out 3
         have hns24_0 := NB401_413.out
         have hns24_1 := NB402_413.out
         have hms24_0 := NB413_401.out
         have hms24_1 := NB413_402.out
         refine skip_ (w1 := ?_) (by rfl) rfl ?_ ?_
         rotate_left
         ·go_simp
          rfl
         refine hK.out _ _ (and_11 (blk_far (p := ⟨gb413, _, none⟩) (blk_far (p := ⟨gb413, _, none⟩) (blk_far (p := ⟨gb413, _, none⟩) (blk_far (p := ⟨gb413, _, none⟩) BK401.out NB401_413.out _) NB401_413.out _) NB401_413.out _) NB401_413.out _) (and_24 (blk_far (p := ⟨gb413, _, none⟩) (blk_far (p := ⟨gb413, _, none⟩) (blk_far (p := ⟨gb413, _, none⟩) (blk_far (p := ⟨gb413, _, none⟩) BK402.out NB402_413.out _) NB402_413.out _) NB402_413.out _) NB402_413.out _) ⟨((cell_far (p := ⟨gb413, _, none⟩) (far_held hw405_0 GW413.out) _).trans (((cell_far (p := ⟨gb413, _, none⟩) (far_held hw405_0 GW413.out) _).trans (((cell_far (p := ⟨gb413, _, none⟩) (far_held hw405_0 GW413.out) _).trans (((cell_far (p := ⟨gb413, _, none⟩) (far_held hw405_0 GW413.out) _).trans (hHeld.2.2.2.2.2.2.2.2.2.2.2.2.2.2.2.2.2.2.2.2.2.2.2.2.2.2.2.2.2.2.2.2.2.2.2.1)))))))), ((cell_far (p := ⟨gb413, _, none⟩) (far_held hw405_1 GW413.out) _).trans (((cell_far (p := ⟨gb413, _, none⟩) (far_held hw405_1 GW413.out) _).trans (((cell_far (p := ⟨gb413, _, none⟩) (far_held hw405_1 GW413.out) _).trans (((cell_far (p := ⟨gb413, _, none⟩) (far_held hw405_1 GW413.out) _).trans (hHeld.2.2.2.2.2.2.2.2.2.2.2.2.2.2.2.2.2.2.2.2.2.2.2.2.2.2.2.2.2.2.2.2.2.2.2.2.1)))))))), ((cell_far (p := ⟨gb413, _, none⟩) (far_held hw405_2 GW413.out) _).trans (((cell_far (p := ⟨gb413, _, none⟩) (far_held hw405_2 GW413.out) _).trans (((cell_far (p := ⟨gb413, _, none⟩) (far_held hw405_2 GW413.out) _).trans (((cell_far (p := ⟨gb413, _, none⟩) (far_held hw405_2 GW413.out) _).trans (hHeld.2.2.2.2.2.2.2.2.2.2.2.2.2.2.2.2.2.2.2.2.2.2.2.2.2.2.2.2.2.2.2.2.2.2.2.2.2.1)))))))), ((cell_far (p := ⟨gb413, _, none⟩) (far_held hw405_3 GW413.out) _).trans (((cell_far (p := ⟨gb413, _, none⟩) (far_held hw405_3 GW413.out) _).trans (((cell_far (p := ⟨gb413, _, none⟩) (far_held hw405_3 GW413.out) _).trans (((cell_far (p := ⟨gb413, _, none⟩) (far_held hw405_3 GW413.out) _).trans (hHeld.2.2.2.2.2.2.2.2.2.2.2.2.2.2.2.2.2.2.2.2.2.2.2.2.2.2.2.2.2.2.2.2.2.2.2.2.2.2.1)))))))), ((cell_far (p := ⟨gb413, _, none⟩) (far_held hw405_4 GW413.out) _).trans (((cell_far (p := ⟨gb413, _, none⟩) (far_held hw405_4 GW413.out) _).trans (((cell_far (p := ⟨gb413, _, none⟩) (far_held hw405_4 GW413.out) _).trans (((cell_far (p := ⟨gb413, _, none⟩) (far_held hw405_4 GW413.out) _).trans (hHeld.2.2.2.2.2.2.2.2.2.2.2.2.2.2.2.2.2.2.2.2.2.2.2.2.2.2.2.2.2.2.2.2.2.2.2.2.2.2.2.1)))))))), ((cell_far (p := ⟨gb413, _, none⟩) (far_held hw405_5 GW413.out) _).trans (((cell_far (p := ⟨gb413, _, none⟩) (far_held hw405_5 GW413.out) _).trans (((cell_far (p := ⟨gb413, _, none⟩) (far_held hw405_5 GW413.out) _).trans (((cell_far (p := ⟨gb413, _, none⟩) (far_held hw405_5 GW413.out) _).trans (hHeld.2.2.2.2.2.2.2.2.2.2.2.2.2.2.2.2.2.2.2.2.2.2.2.2.2.2.2.2.2.2.2.2.2.2.2.2.2.2.2.2))))))))⟩)) (fun hHeld => ?_)
         clear hK K
         refine pure_ (i := 17) (N := some 16) (v := ?_) (a' := ?_) #[true, true, true, true, true, true, true, true, true, true, true, true, true, true, true, true, true, true] rfl rfl (any_of HT_.out (by kernel_rfl)) (fun _ _ _ h => h) (Or.inl ⟨by rfl, ?_⟩) ?_ ?_
         rotate_left
         ·intro w'
          go_simp
          with_reducible rfl
         rotate_left
         ·simp only [Act.put, List.setIfInBounds_toArray, List.set_cons_zero, List.set_cons_succ, i64_w, i32_w]
          rfl
         refine done_ (done_of HT_.out (by kernel_rfl)) ?_
         have hnb25 := NB402_401.out
         have hnc25 := NB401_402.out
         have hnb26 := NB402_413.out
         have hnc26 := NB413_402.out
         have hcz27 := cells_24 BK402.out
         have hfz27 := frozen_24 BK402.out
         have hnb28 := NB413_401.out
         have hnc28 := NB401_413.out
         have hcz29_0 : w20.cell? ⟨gb413, 0, none⟩ = some (.int .i64 0) := (blk_cell BK413.out 0).trans rfl
         have hcz29_1 : w20.cell? ⟨gb413, 1, none⟩ = some (.int .i64 0) := (blk_cell BK413.out 1).trans rfl
         have hcz29_2 : w20.cell? ⟨gb413, 2, none⟩ = some (.int .i64 0) := (blk_cell BK413.out 2).trans rfl
         have hcz29_3 : w20.cell? ⟨gb413, 3, none⟩ = some (.string (⟨#[]⟩ : ByteArray)) := (blk_cell BK413.out 3).trans rfl
         have hfz29_0 := blk_frozen BK413.out 0
         have hfz29_1 := blk_frozen BK413.out 1
         have hfz29_2 := blk_frozen BK413.out 2
         have hfz29_3 := blk_frozen BK413.out 3
         try go_wp2_with (first | ((with_reducible refine gate_load (t := 30) (x := .tmp 4) rfl ?_); refine load_row_g (cs := ?_) ?hw 30 (.tmp 4) ?h2 gb402 ?hx 30 (fr := (0, 0)) (d := ?_) ?hg ?h3 ?h4 ?hi ?_; (case hw => first | (with_reducible rfl) | (go_simp; done) | rfl); (case h2 => rfl); (case hx => first | (with_reducible rfl) | (go_simp; done) | rfl); (case hg => (with_reducible repeat (first | refine blk_drewN ?_ _ | refine blk_drew ?_ | refine blk_alloc ?_ _)); with_reducible exact BK402.out); (case h3 => exact Try.underlying30); (case h4 => rfl); (case hi => kernel_rfl)) | ((with_reducible refine gate_builtin (b := .append) (xs := #[.tmp 53, .tmp 55]) rfl ?_); at_builtin; refine Kd.R_append k35 (w0 := w) w.heap.size rfl (.tmp 53) (.tmp 55) 42 35 (.agg #[(.int .i64 0), (.int .i64 0), (.int .i64 0), (.string ⟨#[]⟩)]) 40 rfl Try.underlying42 info35 rfl (by decide) (by omega) u10 x10_1 (⟨t408, t409, t410, t411⟩ : S35) [.int .i64 t408, .int .i64 t409, .int .i64 t410, .string t411] (fun k_ => k_ ≠ gb413) (fun _ => False) rfl (by first | (go_simp; done) | (go_simp; rfl)) ?aP (fun _ hk => hk.elim) ?aF ?aO ?aB ?aS ?aL ?_; (case aP => exact k35_mkM _ _ _ (⟨t408, t409, t410, t411⟩ : S35)); (case aB => exact (by repeat (first | (with_reducible first | exact HB.out | apply below_alloc | apply pw_below_drewN | apply below_drew1 | refine below_set ?_ GE401.out | refine below_set ?_ GE402.out | refine below_set ?_ GE413.out) | exact HB.out))); (case aF => exact (fun k_ hk => Kd.freshB (g := gb413) (o := .cells #[.int .i64 t408, .int .i64 t409, .int .i64 t410, .string t411] 35 (0, 0)) (by (iterate 2 ((with_reducible repeat (first | refine blk_drewN ?_ _ | refine blk_drew ?_ | refine blk_alloc ?_ _)); refine blk_far ?_ NB413_402.out _)); (with_reducible repeat (first | refine blk_drewN ?_ _ | refine blk_drew ?_ | refine blk_alloc ?_ _)); refine blk_put (cs := #[.int .i64 t408, .int .i64 t409, .int .i64 t410, .string (⟨#[]⟩ : ByteArray)]) ?_ 3 _ rfl; (with_reducible repeat (first | refine blk_drewN ?_ _ | refine blk_drew ?_ | refine blk_alloc ?_ _)); refine blk_put (cs := #[.int .i64 t408, .int .i64 t409, .int .i64 0, .string (⟨#[]⟩ : ByteArray)]) ?_ 2 _ rfl; (with_reducible repeat (first | refine blk_drewN ?_ _ | refine blk_drew ?_ | refine blk_alloc ?_ _)); refine blk_put (cs := #[.int .i64 t408, .int .i64 0, .int .i64 0, .string (⟨#[]⟩ : ByteArray)]) ?_ 1 _ rfl; (with_reducible repeat (first | refine blk_drewN ?_ _ | refine blk_drew ?_ | refine blk_alloc ?_ _)); refine blk_put (cs := #[.int .i64 0, .int .i64 0, .int .i64 0, .string (⟨#[]⟩ : ByteArray)]) ?_ 0 _ rfl; (with_reducible repeat (first | refine blk_drewN ?_ _ | refine blk_drew ?_ | refine blk_alloc ?_ _)); exact BK413.out) k_ hk)); (case aO => exact (by (with_reducible repeat (first | apply Kd.R_alloc | apply Kd.R_drewN | apply Kd.R_drew)); exact Kd.R_mono (Kd.R_far (p := ⟨gb402, 10, none⟩) (Kd.R_far (p := ⟨gb402, 11, none⟩) (Kd.R_far (p := ⟨gb413, 3, none⟩) (Kd.R_far (p := ⟨gb413, 2, none⟩) (Kd.R_far (p := ⟨gb413, 1, none⟩) (Kd.R_far (p := ⟨gb413, 0, none⟩) (Kd.R_types (Kd.R_mono HO_10.out (fun k_ hk => (⟨hk, hk⟩ : _ ∧ k_ ≠ gb413))) BK402.out (by decide)) (fun _ hk => hk.1.2) (.int .i64 t408)) (fun _ hk => hk.1.2) (.int .i64 t409)) (fun _ hk => hk.1.2) (.int .i64 t410)) (fun _ hk => hk.1.2) (.string t411)) (fun _ hk => hk.2) (.string t406)) (fun _ hk => hk.2) (.string t407)) (fun _ hk => hk.1.1))); (case aS => exact (below_size (by repeat (first | (with_reducible first | exact HB.out | apply below_alloc | apply pw_below_drewN | apply below_drew1 | refine below_set ?_ GE401.out | refine below_set ?_ GE402.out | refine below_set ?_ GE413.out) | exact HB.out)))); (case aL => have := LMc16.out; omega); intro v415 w30 ho hb hg hat; rw [← Ny414.out] at ho; replace BK401 := Aside0.mk (blk_grown (g := gb401) (o := .cells #[.int .i64 a0_0, .int .i64 a0_1, .int .i64 a0_2, .int .i64 a0_3, .int .i64 a0_4, .int .i64 a0_5, .int .i64 a0_6, .int .i64 a0_7, .int .i64 a0_8, .int .i64 a0_9, .slice A0_10 l0_10.length c0_10] 24 (0, 0)) (by (iterate 2 ((with_reducible repeat (first | refine blk_drewN ?_ _ | refine blk_drew ?_ | refine blk_alloc ?_ _)); refine blk_far ?_ NB401_402.out _)); (iterate 4 ((with_reducible repeat (first | refine blk_drewN ?_ _ | refine blk_drew ?_ | refine blk_alloc ?_ _)); refine blk_far ?_ NB401_413.out _)); (with_reducible repeat (first | refine blk_drewN ?_ _ | refine blk_drew ?_ | refine blk_alloc ?_ _)); exact BK401.out) hg (Kd.R_ne HO_10.out BK401.out (by decide))); replace BK402 := Aside0.mk (blk_grown (g := gb402) (o := .cells #[.int .i64 a1_0, .int .i64 a1_1, .int .i64 a1_2, .string a1_3, .int .i64 a1_4, .string a1_5, .string a1_6, .int .i64 a1_7, .int .i64 a1_8, .string a1_9, .string t407, .string t406, .string a1_12, .string a1_13, .string a1_14, .slice A1_15 l1_15.length c1_15, .slice A1_16 l1_16.length c1_16, .slice A1_17 l1_17.length c1_17, .int .i64 a1_18, .int .i64 a1_19, .int .i64 a1_20, .int .i64 a1_21, .int .i64 a1_22, .int .i64 a1_23] 30 (0, 0)) (by (with_reducible repeat (first | refine blk_drewN ?_ _ | refine blk_drew ?_ | refine blk_alloc ?_ _)); refine blk_put (cs := #[.int .i64 a1_0, .int .i64 a1_1, .int .i64 a1_2, .string a1_3, .int .i64 a1_4, .string a1_5, .string a1_6, .int .i64 a1_7, .int .i64 a1_8, .string a1_9, .string x403010_1, .string t406, .string a1_12, .string a1_13, .string a1_14, .slice A1_15 l1_15.length c1_15, .slice A1_16 l1_16.length c1_16, .slice A1_17 l1_17.length c1_17, .int .i64 a1_18, .int .i64 a1_19, .int .i64 a1_20, .int .i64 a1_21, .int .i64 a1_22, .int .i64 a1_23]) ?_ 10 _ rfl; (with_reducible repeat (first | refine blk_drewN ?_ _ | refine blk_drew ?_ | refine blk_alloc ?_ _)); refine blk_put (cs := #[.int .i64 a1_0, .int .i64 a1_1, .int .i64 a1_2, .string a1_3, .int .i64 a1_4, .string a1_5, .string a1_6, .int .i64 a1_7, .int .i64 a1_8, .string a1_9, .string x403010_1, .string x403011_1, .string a1_12, .string a1_13, .string a1_14, .slice A1_15 l1_15.length c1_15, .slice A1_16 l1_16.length c1_16, .slice A1_17 l1_17.length c1_17, .int .i64 a1_18, .int .i64 a1_19, .int .i64 a1_20, .int .i64 a1_21, .int .i64 a1_22, .int .i64 a1_23]) ?_ 11 _ rfl; (iterate 4 ((with_reducible repeat (first | refine blk_drewN ?_ _ | refine blk_drew ?_ | refine blk_alloc ?_ _)); refine blk_far ?_ NB402_413.out _)); (with_reducible repeat (first | refine blk_drewN ?_ _ | refine blk_drew ?_ | refine blk_alloc ?_ _)); exact BK402.out) hg (Kd.R_ne HO_10.out BK402.out (by decide))); replace BK413 := Aside0.mk (blk_grown (g := gb413) (o := .cells #[.int .i64 t408, .int .i64 t409, .int .i64 t410, .string t411] 35 (0, 0)) (by (iterate 2 ((with_reducible repeat (first | refine blk_drewN ?_ _ | refine blk_drew ?_ | refine blk_alloc ?_ _)); refine blk_far ?_ NB413_402.out _)); (with_reducible repeat (first | refine blk_drewN ?_ _ | refine blk_drew ?_ | refine blk_alloc ?_ _)); refine blk_put (cs := #[.int .i64 t408, .int .i64 t409, .int .i64 t410, .string (⟨#[]⟩ : ByteArray)]) ?_ 3 _ rfl; (with_reducible repeat (first | refine blk_drewN ?_ _ | refine blk_drew ?_ | refine blk_alloc ?_ _)); refine blk_put (cs := #[.int .i64 t408, .int .i64 t409, .int .i64 0, .string (⟨#[]⟩ : ByteArray)]) ?_ 2 _ rfl; (with_reducible repeat (first | refine blk_drewN ?_ _ | refine blk_drew ?_ | refine blk_alloc ?_ _)); refine blk_put (cs := #[.int .i64 t408, .int .i64 0, .int .i64 0, .string (⟨#[]⟩ : ByteArray)]) ?_ 1 _ rfl; (with_reducible repeat (first | refine blk_drewN ?_ _ | refine blk_drew ?_ | refine blk_alloc ?_ _)); refine blk_put (cs := #[.int .i64 0, .int .i64 0, .int .i64 0, .string (⟨#[]⟩ : ByteArray)]) ?_ 0 _ rfl; (with_reducible repeat (first | refine blk_drewN ?_ _ | refine blk_drew ?_ | refine blk_alloc ?_ _)); exact BK413.out) hg (Kd.R_away HO_10.out (fun _ hk => hk))); replace HB := Aside0.mk (hb); have HO416 := Aside0.mk (ho); clear HO_10; clear ho hb hg hat))
         go_roundg k1
         case measure => have := HK1.out; omega
         case rel => exact ⟨(y414), (x11_1), (wrap64 (x12_1 + 1)), (t407), (t406), (by first | rfl | (simp; done) | (simp [*]; done)), (by first | rfl | (simp; done) | (simp [*]; done)), H', ⟨by have := HK1.out; omega⟩, ⟨by (with_reducible repeat (first | apply Kd.R_alloc | apply Kd.R_drewN | apply Kd.R_drew)); exact Kd.R_mono HO416.out (fun _ hk => trivial)⟩, ⟨by (with_reducible repeat (first | refine blk_drewN ?_ _ | refine blk_drew ?_ | refine blk_alloc ?_ _)); exact BK401.out⟩, ⟨by (with_reducible repeat (first | refine blk_drewN ?_ _ | refine blk_drew ?_ | refine blk_alloc ?_ _)); exact BK402.out⟩, ⟨by repeat (first | (with_reducible first | exact HB.out | apply below_alloc | apply pw_below_drewN | apply below_drew1 | refine below_set ?_ GE401.out | refine below_set ?_ GE402.out | refine below_set ?_ GE413.out) | exact HB.out)⟩⟩
        ·rw [if_neg c16] at H
         exact absurd H (by simp)
       ·rw [if_neg c15] at H
        have c15b0 : (t412 == 0) = false := beq_eq_false_iff_ne.mpr c15
        have c15b1 : (t412 != 0) = true := bne_iff_ne.mpr c15
        have H' := Aside0.mk H
        clear H
        have p404 : 0 ≤ (x12_1 : Int) := of_decide_eq_true (by first | (with_reducible assumption) | assumption)
        have q404 : x12_1 < (l2.length : Int) := of_decide_eq_true (by first | (with_reducible assumption) | assumption)
        obtain ⟨ad404, e404, hx404_0, hx404_1, hx404_2, hx404_3, hx404_4, hx404_5⟩ := at_T32 HR2.out x12_1 p404 q404
        cases e404
        replace hx404_0 := (HB.out.cell (World.block_lt_of_cell? w _ hx404_0)).trans hx404_0
        replace hx404_1 := (HB.out.cell (World.block_lt_of_cell? w _ hx404_1)).trans hx404_1
        replace hx404_2 := (HB.out.cell (World.block_lt_of_cell? w _ hx404_2)).trans hx404_2
        replace hx404_3 := (HB.out.cell (World.block_lt_of_cell? w _ hx404_3)).trans hx404_3
        replace hx404_4 := (HB.out.cell (World.block_lt_of_cell? w _ hx404_4)).trans hx404_4
        replace hx404_5 := (HB.out.cell (World.block_lt_of_cell? w _ hx404_5)).trans hx404_5
        replace p404 := eq_true p404
        replace q404 := eq_true q404
        try go_wp2
        replace HO_10 := Aside0.mk (Kd.R_drew HO_10.out)
        replace BK401 := Aside0.mk (blk_drew BK401.out)
        replace BK402 := Aside0.mk (blk_drew BK402.out)
        replace HB := Aside0.mk (below_drew1 HB.out)
        have p405 : 0 ≤ (x12_1 : Int) := of_decide_eq_true (by first | (with_reducible assumption) | assumption)
        have q405 : x12_1 < (l2.length : Int) := of_decide_eq_true (by first | (with_reducible assumption) | assumption)
        obtain ⟨ad405, e405, hx405_0, hx405_1, hx405_2, hx405_3, hx405_4, hx405_5⟩ := at_T32 HR2.out x12_1 p405 q405
        have hw405_5 := hx405_5
        have hw405_4 := hx405_4
        have hw405_3 := hx405_3
        have hw405_2 := hx405_2
        have hw405_1 := hx405_1
        have hw405_0 := hx405_0
        obtain rfl : ad404 = ad405 := (by injection e405)
        replace hx405_0 := (HB.out.cell (World.block_lt_of_cell? w _ hx405_0)).trans hx405_0
        replace hx405_1 := (HB.out.cell (World.block_lt_of_cell? w _ hx405_1)).trans hx405_1
        replace hx405_2 := (HB.out.cell (World.block_lt_of_cell? w _ hx405_2)).trans hx405_2
        replace hx405_3 := (HB.out.cell (World.block_lt_of_cell? w _ hx405_3)).trans hx405_3
        replace hx405_4 := (HB.out.cell (World.block_lt_of_cell? w _ hx405_4)).trans hx405_4
        replace hx405_5 := (HB.out.cell (World.block_lt_of_cell? w _ hx405_5)).trans hx405_5
        replace p405 := eq_true p405
        replace q405 := eq_true q405
        refine start_ (n := 18) (S := fun w' => w'.cell? ⟨gb401, 0, none⟩ = some (.int .i64 a0_0) ∧ w'.cell? ⟨gb401, 1, none⟩ = some (.int .i64 a0_1) ∧ w'.cell? ⟨gb401, 2, none⟩ = some (.int .i64 a0_2) ∧ w'.cell? ⟨gb401, 3, none⟩ = some (.int .i64 a0_3) ∧ w'.cell? ⟨gb401, 4, none⟩ = some (.int .i64 a0_4) ∧ w'.cell? ⟨gb401, 5, none⟩ = some (.int .i64 a0_5) ∧ w'.cell? ⟨gb401, 6, none⟩ = some (.int .i64 a0_6) ∧ w'.cell? ⟨gb401, 7, none⟩ = some (.int .i64 a0_7) ∧ w'.cell? ⟨gb401, 8, none⟩ = some (.int .i64 a0_8) ∧ w'.cell? ⟨gb401, 9, none⟩ = some (.int .i64 a0_9) ∧ w'.cell? ⟨gb401, 10, none⟩ = some (.slice A0_10 l0_10.length c0_10) ∧ w'.cell? ⟨gb402, 0, none⟩ = some (.int .i64 a1_0) ∧ w'.cell? ⟨gb402, 1, none⟩ = some (.int .i64 a1_1) ∧ w'.cell? ⟨gb402, 2, none⟩ = some (.int .i64 a1_2) ∧ w'.cell? ⟨gb402, 3, none⟩ = some (.string a1_3) ∧ w'.cell? ⟨gb402, 4, none⟩ = some (.int .i64 a1_4) ∧ w'.cell? ⟨gb402, 5, none⟩ = some (.string a1_5) ∧ w'.cell? ⟨gb402, 6, none⟩ = some (.string a1_6) ∧ w'.cell? ⟨gb402, 7, none⟩ = some (.int .i64 a1_7) ∧ w'.cell? ⟨gb402, 8, none⟩ = some (.int .i64 a1_8) ∧ w'.cell? ⟨gb402, 9, none⟩ = some (.string a1_9) ∧ w'.cell? ⟨gb402, 10, none⟩ = some (.string x403010_1) ∧ w'.cell? ⟨gb402, 11, none⟩ = some (.string x403011_1) ∧ w'.cell? ⟨gb402, 12, none⟩ = some (.string a1_12) ∧ w'.cell? ⟨gb402, 13, none⟩ = some (.string a1_13) ∧ w'.cell? ⟨gb402, 14, none⟩ = some (.string a1_14) ∧ w'.cell? ⟨gb402, 15, none⟩ = some (.slice A1_15 l1_15.length c1_15) ∧ w'.cell? ⟨gb402, 16, none⟩ = some (.slice A1_16 l1_16.length c1_16) ∧ w'.cell? ⟨gb402, 17, none⟩ = some (.slice A1_17 l1_17.length c1_17) ∧ w'.cell? ⟨gb402, 18, none⟩ = some (.int .i64 a1_18) ∧ w'.cell? ⟨gb402, 19, none⟩ = some (.int .i64 a1_19) ∧ w'.cell? ⟨gb402, 20, none⟩ = some (.int .i64 a1_20) ∧ w'.cell? ⟨gb402, 21, none⟩ = some (.int .i64 a1_21) ∧ w'.cell? ⟨gb402, 22, none⟩ = some (.int .i64 a1_22) ∧ w'.cell? ⟨gb402, 23, none⟩ = some (.int .i64 a1_23) ∧ w'.cell? (ad404.add ((x12_1).toNat * 6)) = some (.string ((rd_T32 l2 x12_1).f0)) ∧ w'.cell? ⟨(ad404.add ((x12_1).toNat * 6)).block, (ad404.add ((x12_1).toNat * 6)).off + 1, none⟩ = some (.int .i64 ((rd_T32 l2 x12_1).f1)) ∧ w'.cell? ⟨(ad404.add ((x12_1).toNat * 6)).block, (ad404.add ((x12_1).toNat * 6)).off + 2, none⟩ = some (.string ((rd_T32 l2 x12_1).f2)) ∧ w'.cell? ⟨(ad404.add ((x12_1).toNat * 6)).block, (ad404.add ((x12_1).toNat * 6)).off + 3, none⟩ = some (.int .i64 ((rd_T32 l2 x12_1).f3)) ∧ w'.cell? ⟨(ad404.add ((x12_1).toNat * 6)).block, (ad404.add ((x12_1).toNat * 6)).off + 4, none⟩ = some (.int .i64 ((rd_T32 l2 x12_1).f4)) ∧ w'.cell? ⟨(ad404.add ((x12_1).toNat * 6)).block, (ad404.add ((x12_1).toNat * 6)).off + 5, none⟩ = some (.string ((rd_T32 l2 x12_1).f5))) (ds := []) #[false, false, false, false, false, false, false, false, false, false, false, false, false, false, false, false, false, false] (by kernel_rfl) rfl rfl ⟨(blk_cell BK401.out 0).trans rfl, (blk_cell BK401.out 1).trans rfl, (blk_cell BK401.out 2).trans rfl, (blk_cell BK401.out 3).trans rfl, (blk_cell BK401.out 4).trans rfl, (blk_cell BK401.out 5).trans rfl, (blk_cell BK401.out 6).trans rfl, (blk_cell BK401.out 7).trans rfl, (blk_cell BK401.out 8).trans rfl, (blk_cell BK401.out 9).trans rfl, (blk_cell BK401.out 10).trans rfl, (blk_cell BK402.out 0).trans rfl, (blk_cell BK402.out 1).trans rfl, (blk_cell BK402.out 2).trans rfl, (blk_cell BK402.out 3).trans rfl, (blk_cell BK402.out 4).trans rfl, (blk_cell BK402.out 5).trans rfl, (blk_cell BK402.out 6).trans rfl, (blk_cell BK402.out 7).trans rfl, (blk_cell BK402.out 8).trans rfl, (blk_cell BK402.out 9).trans rfl, (blk_cell BK402.out 10).trans rfl, (blk_cell BK402.out 11).trans rfl, (blk_cell BK402.out 12).trans rfl, (blk_cell BK402.out 13).trans rfl, (blk_cell BK402.out 14).trans rfl, (blk_cell BK402.out 15).trans rfl, (blk_cell BK402.out 16).trans rfl, (blk_cell BK402.out 17).trans rfl, (blk_cell BK402.out 18).trans rfl, (blk_cell BK402.out 19).trans rfl, (blk_cell BK402.out 20).trans rfl, (blk_cell BK402.out 21).trans rfl, (blk_cell BK402.out 22).trans rfl, (blk_cell BK402.out 23).trans rfl, ((HB.out.cell (World.block_lt_of_cell? w _ hw405_0)).trans hw405_0), ((HB.out.cell (World.block_lt_of_cell? w _ hw405_1)).trans hw405_1), ((HB.out.cell (World.block_lt_of_cell? w _ hw405_2)).trans hw405_2), ((HB.out.cell (World.block_lt_of_cell? w _ hw405_3)).trans hw405_3), ((HB.out.cell (World.block_lt_of_cell? w _ hw405_4)).trans hw405_4), ((HB.out.cell (World.block_lt_of_cell? w _ hw405_5)).trans hw405_5)⟩ (fun hHeld => ?_); refine with_tabW r24_All.tab9 r24_All.bits9 (fun HT_ HW_ => ?_)
        generalize wr.drew = w31 at HO_10 BK401 BK402 HB hx405_0 hx405_1 hx405_2 hx405_3 hx405_4 hx405_5 hHeld ⊢
        refine pure_ (i := 2) (N := some 35) (v := ?_) (a' := ?_) #[false, false, true, false, false, false, false, false, false, false, false, false, false, false, false, false, false, false] rfl rfl (any_of HT_.out (by kernel_rfl)) (fun _ _ _ h => h) (Or.inl ⟨by rfl, ?_⟩) ?_ ?_
        rotate_left
        ·intro w'
         go_simp
         with_reducible rfl
        rotate_left
        ·simp only [Act.put, List.setIfInBounds_toArray, List.set_cons_zero, List.set_cons_succ, i64_w, i32_w]
         rfl
        refine pure_ (i := 3) (N := some 36) (v := ?_) (a' := ?_) #[false, false, true, true, false, false, false, false, false, false, false, false, false, false, false, false, false, false] rfl rfl (any_of HT_.out (by kernel_rfl)) (fun _ _ _ h => h) (Or.inl ⟨by rfl, ?_⟩) ?_ ?_
        rotate_left
        ·intro w'
         go_simp
         with_reducible rfl
        rotate_left
        ·simp only [Act.put, List.setIfInBounds_toArray, List.set_cons_zero, List.set_cons_succ, i64_w, i32_w]
         rfl
        refine pure_ (i := 4) (N := some 37) (v := ?_) (a' := ?_) #[false, false, true, true, true, false, false, false, false, false, false, false, false, false, false, false, false, false] rfl rfl (any_of HT_.out (by kernel_rfl)) (fun _ _ _ h => h) (Or.inl ⟨by rfl, ?_⟩) ?_ ?_
        rotate_left
        ·intro w'
         go_simp
         with_reducible rfl
        rotate_left
        ·simp only [Act.put, List.setIfInBounds_toArray, List.set_cons_zero, List.set_cons_succ, i64_w, i32_w]
         rfl
        refine pure_ (i := 5) (N := some 38) (v := ?_) (a' := ?_) #[false, false, true, true, true, true, false, false, false, false, false, false, false, false, false, false, false, false] rfl rfl (any_of HT_.out (by kernel_rfl)) (fun _ _ _ h => h) (Or.inl ⟨by rfl, ?_⟩) ?_ ?_
        rotate_left
        ·intro w'
         go_simp
         with_reducible rfl
        rotate_left
        ·simp only [Act.put, List.setIfInBounds_toArray, List.set_cons_zero, List.set_cons_succ, i64_w, i32_w]
         rfl
        refine take_ (i := 0) (N := some 33) (v := ?_) (a' := ?_) #[true, false, true, true, true, true, false, false, false, false, false, false, false, false, false, false, false, false] rfl rfl (take_ofW HT_.out HW_.out (by kernel_rfl)) (fun _ _ _ h => h) (Or.inl ⟨by rfl, ?_⟩) hHeld ?_ ?_
        rotate_left
        ·rintro w' ⟨s0, s1, s2, s3, s4, s5, s6, s7, s8, s9, s10, s11, s12, s13, s14, s15, s16, s17, s18, s19, s20, s21, s22, s23, s24, s25, s26, s27, s28, s29, s30, s31, s32, s33, s34, s35, s36, s37, s38, s39, s40⟩
         (first | (refine load_cells_24 (ty := 30) (x := .tmp 4) (g := gb402) ?hlo_ ?hx_ Try.underlying30 ?hd_ ?hi_ s11 s12 s13 s14 s15 s16 s17 s18 s19 s20 s21 s22 s23 s24 s25 s26 s27 s28 s29 s30 s31 s32 s33 s34; (case hlo_ => rfl); (case hx_ => rfl); (case hd_ => rfl); (case hi_ => kernel_rfl)) | (go_simp; with_reducible rfl))
        rotate_left
        ·simp only [Act.put, List.setIfInBounds_toArray, List.set_cons_zero, List.set_cons_succ, i64_w, i32_w]
         rfl
        refine take_ (i := 1) (N := some 34) (v := ?_) (a' := ?_) #[true, true, true, true, true, true, false, false, false, false, false, false, false, false, false, false, false, false] rfl rfl (take_ofW HT_.out HW_.out (by kernel_rfl)) (fun _ _ _ h => h) (Or.inl ⟨by rfl, ?_⟩) hHeld ?_ ?_
        rotate_left
        ·rintro w' ⟨s0, s1, s2, s3, s4, s5, s6, s7, s8, s9, s10, s11, s12, s13, s14, s15, s16, s17, s18, s19, s20, s21, s22, s23, s24, s25, s26, s27, s28, s29, s30, s31, s32, s33, s34, s35, s36, s37, s38, s39, s40⟩
         (first | (refine load_cells_24 (ty := 30) (x := .tmp 4) (g := gb402) ?hlo_ ?hx_ Try.underlying30 ?hd_ ?hi_ s11 s12 s13 s14 s15 s16 s17 s18 s19 s20 s21 s22 s23 s24 s25 s26 s27 s28 s29 s30 s31 s32 s33 s34; (case hlo_ => rfl); (case hx_ => rfl); (case hd_ => rfl); (case hi_ => kernel_rfl)) | (go_simp; with_reducible rfl))
        rotate_left
        ·simp only [Act.put, List.setIfInBounds_toArray, List.set_cons_zero, List.set_cons_succ, i64_w, i32_w]
         rfl
        refine take_ (i := 6) (N := some 39) (v := ?_) (a' := ?_) #[true, true, true, true, true, true, true, false, false, false, false, false, false, false, false, false, false, false] rfl rfl (take_ofW HT_.out HW_.out (by kernel_rfl)) (fun _ _ _ h => h) (Or.inl ⟨by rfl, ?_⟩) hHeld ?_ ?_
        rotate_left
        ·rintro w' ⟨s0, s1, s2, s3, s4, s5, s6, s7, s8, s9, s10, s11, s12, s13, s14, s15, s16, s17, s18, s19, s20, s21, s22, s23, s24, s25, s26, s27, s28, s29, s30, s31, s32, s33, s34, s35, s36, s37, s38, s39, s40⟩
         (first | (refine load_cells_24 (ty := 30) (x := .tmp 4) (g := gb402) ?hlo_ ?hx_ Try.underlying30 ?hd_ ?hi_ s11 s12 s13 s14 s15 s16 s17 s18 s19 s20 s21 s22 s23 s24 s25 s26 s27 s28 s29 s30 s31 s32 s33 s34; (case hlo_ => rfl); (case hx_ => rfl); (case hd_ => rfl); (case hi_ => kernel_rfl)) | (go_simp; with_reducible rfl))
        rotate_left
        ·simp only [Act.put, List.setIfInBounds_toArray, List.set_cons_zero, List.set_cons_succ, i64_w, i32_w]
         rfl
        refine join_ (σ := Nat) 4 #[true, true, true, true, true, true, true, true, true, true, true, true, true, true, false, false, false, false] (fun s_ => [(40, .tuple #[.string t406, .string t407, .agg #[.int .i64 t408, .int .i64 t409, .int .i64 t410, .string t411], .int .i64 t412]), (15, .pointer (some ⟨s_, 0, none⟩)), (32, .tuple #[.string t406, .string t407, .agg #[.int .i64 t408, .int .i64 t409, .int .i64 t410, .string t411], .int .i64 t412]), (41, .string t406), (42, .string t407), (43, .agg #[.int .i64 t408, .int .i64 t409, .int .i64 t410, .string t411]), (44, .int .i64 t412)]) (fun s_ w' => (w'.cell? ⟨gb401, 0, none⟩ = some (.int .i64 a0_0) ∧ w'.cell? ⟨gb401, 1, none⟩ = some (.int .i64 a0_1) ∧ w'.cell? ⟨gb401, 2, none⟩ = some (.int .i64 a0_2) ∧ w'.cell? ⟨gb401, 3, none⟩ = some (.int .i64 a0_3) ∧ w'.cell? ⟨gb401, 4, none⟩ = some (.int .i64 a0_4) ∧ w'.cell? ⟨gb401, 5, none⟩ = some (.int .i64 a0_5) ∧ w'.cell? ⟨gb401, 6, none⟩ = some (.int .i64 a0_6) ∧ w'.cell? ⟨gb401, 7, none⟩ = some (.int .i64 a0_7) ∧ w'.cell? ⟨gb401, 8, none⟩ = some (.int .i64 a0_8) ∧ w'.cell? ⟨gb401, 9, none⟩ = some (.int .i64 a0_9) ∧ w'.cell? ⟨gb401, 10, none⟩ = some (.slice A0_10 l0_10.length c0_10) ∧ w'.cell? ⟨gb402, 0, none⟩ = some (.int .i64 a1_0) ∧ w'.cell? ⟨gb402, 1, none⟩ = some (.int .i64 a1_1) ∧ w'.cell? ⟨gb402, 2, none⟩ = some (.int .i64 a1_2) ∧ w'.cell? ⟨gb402, 3, none⟩ = some (.string a1_3) ∧ w'.cell? ⟨gb402, 4, none⟩ = some (.int .i64 a1_4) ∧ w'.cell? ⟨gb402, 5, none⟩ = some (.string a1_5) ∧ w'.cell? ⟨gb402, 6, none⟩ = some (.string a1_6) ∧ w'.cell? ⟨gb402, 7, none⟩ = some (.int .i64 a1_7) ∧ w'.cell? ⟨gb402, 8, none⟩ = some (.int .i64 a1_8) ∧ w'.cell? ⟨gb402, 9, none⟩ = some (.string a1_9) ∧ w'.cell? ⟨gb402, 10, none⟩ = some (.string x403010_1) ∧ w'.cell? ⟨gb402, 11, none⟩ = some (.string x403011_1) ∧ w'.cell? ⟨gb402, 12, none⟩ = some (.string a1_12) ∧ w'.cell? ⟨gb402, 13, none⟩ = some (.string a1_13) ∧ w'.cell? ⟨gb402, 14, none⟩ = some (.string a1_14) ∧ w'.cell? ⟨gb402, 15, none⟩ = some (.slice A1_15 l1_15.length c1_15) ∧ w'.cell? ⟨gb402, 16, none⟩ = some (.slice A1_16 l1_16.length c1_16) ∧ w'.cell? ⟨gb402, 17, none⟩ = some (.slice A1_17 l1_17.length c1_17) ∧ w'.cell? ⟨gb402, 18, none⟩ = some (.int .i64 a1_18) ∧ w'.cell? ⟨gb402, 19, none⟩ = some (.int .i64 a1_19) ∧ w'.cell? ⟨gb402, 20, none⟩ = some (.int .i64 a1_20) ∧ w'.cell? ⟨gb402, 21, none⟩ = some (.int .i64 a1_21) ∧ w'.cell? ⟨gb402, 22, none⟩ = some (.int .i64 a1_22) ∧ w'.cell? ⟨gb402, 23, none⟩ = some (.int .i64 a1_23) ∧ w'.cell? (ad404.add ((x12_1).toNat * 6)) = some (.string ((rd_T32 l2 x12_1).f0)) ∧ w'.cell? ⟨(ad404.add ((x12_1).toNat * 6)).block, (ad404.add ((x12_1).toNat * 6)).off + 1, none⟩ = some (.int .i64 ((rd_T32 l2 x12_1).f1)) ∧ w'.cell? ⟨(ad404.add ((x12_1).toNat * 6)).block, (ad404.add ((x12_1).toNat * 6)).off + 2, none⟩ = some (.string ((rd_T32 l2 x12_1).f2)) ∧ w'.cell? ⟨(ad404.add ((x12_1).toNat * 6)).block, (ad404.add ((x12_1).toNat * 6)).off + 3, none⟩ = some (.int .i64 ((rd_T32 l2 x12_1).f3)) ∧ w'.cell? ⟨(ad404.add ((x12_1).toNat * 6)).block, (ad404.add ((x12_1).toNat * 6)).off + 4, none⟩ = some (.int .i64 ((rd_T32 l2 x12_1).f4)) ∧ w'.cell? ⟨(ad404.add ((x12_1).toNat * 6)).block, (ad404.add ((x12_1).toNat * 6)).off + 5, none⟩ = some (.string ((rd_T32 l2 x12_1).f5))) ∧ (Kd.R k35 35 w' w.heap.size (fun k_ => k_ ≠ s_) u10 x10_1) ∧ (w'.heap[gb401]? = some (.cells #[.int .i64 a0_0, .int .i64 a0_1, .int .i64 a0_2, .int .i64 a0_3, .int .i64 a0_4, .int .i64 a0_5, .int .i64 a0_6, .int .i64 a0_7, .int .i64 a0_8, .int .i64 a0_9, .slice A0_10 l0_10.length c0_10] 24 (0, 0))) ∧ (w'.heap[gb402]? = some (.cells #[.int .i64 a1_0, .int .i64 a1_1, .int .i64 a1_2, .string a1_3, .int .i64 a1_4, .string a1_5, .string a1_6, .int .i64 a1_7, .int .i64 a1_8, .string a1_9, .string x403010_1, .string x403011_1, .string a1_12, .string a1_13, .string a1_14, .slice A1_15 l1_15.length c1_15, .slice A1_16 l1_16.length c1_16, .slice A1_17 l1_17.length c1_17, .int .i64 a1_18, .int .i64 a1_19, .int .i64 a1_20, .int .i64 a1_21, .int .i64 a1_22, .int .i64 a1_23] 30 (0, 0))) ∧ (w'.heap[s_]? = some (.cells #[.int .i64 0, .int .i64 0, .int .i64 0, .string (⟨#[]⟩ : ByteArray)] 35 (0, 0))) ∧ (w.heap.size ≤ s_) ∧ (w.heap.size ≤ s_) ∧ (gb401 ≠ s_) ∧ (s_ ≠ gb401) ∧ (gb402 ≠ s_) ∧ (s_ ≠ gb402) ∧ (Below w.heap.size w w')) ?_ ?_
        rotate_left
        ·intro hCont
         refine two_ (i := 7) (j := 13) (Ni := some 40) (Nj := some 15) #[true, true, true, true, true, true, true, true, false, false, false, false, false, false, false, false, false, false] #[true, true, true, true, true, true, true, false, false, false, false, false, false, true, false, false, false, false] rfl rfl rfl rfl (two_of HT_.out (by kernel_rfl)) (by decide) (by decide) (fun K hK => ?_) (fun K hK => ?_)
         ·skip
          refine goes_ Try.func9 (by kernel_rfl) rfl #[.agg #[.int .i64 a0_0, .int .i64 a0_1, .int .i64 a0_2, .int .i64 a0_3, .int .i64 a0_4, .int .i64 a0_5, .int .i64 a0_6, .int .i64 a0_7, .int .i64 a0_8, .int .i64 a0_9, .slice A0_10 l0_10.length c0_10], .agg #[.int .i64 a1_0, .int .i64 a1_1, .int .i64 a1_2, .string a1_3, .int .i64 a1_4, .string a1_5, .string a1_6, .int .i64 a1_7, .int .i64 a1_8, .string a1_9, .string x403010_1, .string x403011_1, .string a1_12, .string a1_13, .string a1_14, .slice A1_15 l1_15.length c1_15, .slice A1_16 l1_16.length c1_16, .slice A1_17 l1_17.length c1_17, .int .i64 a1_18, .int .i64 a1_19, .int .i64 a1_20, .int .i64 a1_21, .int .i64 a1_22, .int .i64 a1_23], .int .i64 x12_1, .agg #[.string ((rd_T32 l2 x12_1).f0), .int .i64 ((rd_T32 l2 x12_1).f1), .string ((rd_T32 l2 x12_1).f2), .int .i64 ((rd_T32 l2 x12_1).f3), .int .i64 ((rd_T32 l2 x12_1).f4), .string ((rd_T32 l2 x12_1).f5)]] (by rfl) rfl rfl (by (try simp only [List.map_toArray, List.map_cons, List.map_nil]); first | done | rfl) ?_
          with_reducible refine (r24_Take.calls k1 a0_0 a0_1 a0_2 a0_3 a0_4 a0_5 a0_6 a0_7 a0_8 a0_9 _ _ l0_10 a1_0 a1_1 a1_2 a1_3 a1_4 a1_5 a1_6 a1_7 a1_8 a1_9 x403010_1 x403011_1 a1_12 a1_13 a1_14 _ _ l1_15 _ _ l1_16 _ _ l1_17 a1_18 a1_19 a1_20 a1_21 a1_22 a1_23 x12_1 ((rd_T32 l2 x12_1).f0) ((rd_T32 l2 x12_1).f1) ((rd_T32 l2 x12_1).f2) ((rd_T32 l2 x12_1).f3) ((rd_T32 l2 x12_1).f4) ((rd_T32 l2 x12_1).f5) t406 t407 t408 t409 t410 t411 t412 _ ?side1 ?side2 ?side3 ?side4 ?side5 ?side6 ?side7 ?side8 A14.out).mono ?_
          (case side1 => exact (Kd.C_below HR0_10.out HB.out))
          (case side2 => exact HC0_10.out)
          (case side3 => exact (Kd.C_below HR1_15.out HB.out))
          (case side4 => exact HC1_15.out)
          (case side5 => exact (Kd.C_below HR1_16.out HB.out))
          (case side6 => exact HC1_16.out)
          (case side7 => exact (Kd.C_below HR1_17.out HB.out))
          (case side8 => exact HC1_17.out)
          rintro e w32 ⟨rfl, hb⟩
          refine ⟨_, rfl, ?_⟩
          replace HO_10 := Aside0.mk (Kd.R_below HO_10.out hb)
          replace BK401 := Aside0.mk (blk_below BK401.out hb)
          replace BK402 := Aside0.mk (blk_below BK402.out hb)
          replace HB := Aside0.mk (below_step HB.out hb)
          (try clear hb)
          (try clear hb2)
          (try clear hk)
          (try clear hi)
          refine hK.out _ _ (and_11 BK401.out (and_24 BK402.out ⟨((HB.out.cell (World.block_lt_of_cell? w _ hw405_0)).trans hw405_0), ((HB.out.cell (World.block_lt_of_cell? w _ hw405_1)).trans hw405_1), ((HB.out.cell (World.block_lt_of_cell? w _ hw405_2)).trans hw405_2), ((HB.out.cell (World.block_lt_of_cell? w _ hw405_3)).trans hw405_3), ((HB.out.cell (World.block_lt_of_cell? w _ hw405_4)).trans hw405_4), ((HB.out.cell (World.block_lt_of_cell? w _ hw405_5)).trans hw405_5)⟩)) (fun hHeld => ?_)
          clear hK K
          refine norm_ (a' := ?_) ?_ ?_
          rotate_left
          ·show Act.put _ (some 40) _ = _
           simp only [Act.put, List.setIfInBounds_toArray, List.set_cons_zero, List.set_cons_succ, i64_w, i32_w]
           rfl
          refine pure_ (i := 8) (N := some 32) (v := ?_) (a' := ?_) #[true, true, true, true, true, true, true, true, true, false, false, false, false, false, false, false, false, false] rfl rfl (any_of HT_.out (by kernel_rfl)) (fun _ _ _ h => h) (Or.inl ⟨by rfl, ?_⟩) ?_ ?_
          rotate_left
          ·intro w'
           go_simp
           with_reducible rfl
          rotate_left
          ·simp only [Act.put, List.setIfInBounds_toArray, List.set_cons_zero, List.set_cons_succ, i64_w, i32_w]
           rfl
          refine pure_ (i := 9) (N := some 41) (v := ?_) (a' := ?_) #[true, true, true, true, true, true, true, true, true, true, false, false, false, false, false, false, false, false] rfl rfl (any_of HT_.out (by kernel_rfl)) (fun _ _ _ h => h) (Or.inl ⟨by rfl, ?_⟩) ?_ ?_
          rotate_left
          ·intro w'
           go_simp
           with_reducible rfl
          rotate_left
          ·simp only [Act.put, List.setIfInBounds_toArray, List.set_cons_zero, List.set_cons_succ, i64_w, i32_w]
           rfl
          refine pure_ (i := 10) (N := some 42) (v := ?_) (a' := ?_) #[true, true, true, true, true, true, true, true, true, true, true, false, false, false, false, false, false, false] rfl rfl (any_of HT_.out (by kernel_rfl)) (fun _ _ _ h => h) (Or.inl ⟨by rfl, ?_⟩) ?_ ?_
          rotate_left
          ·intro w'
           go_simp
           with_reducible rfl
          rotate_left
          ·simp only [Act.put, List.setIfInBounds_toArray, List.set_cons_zero, List.set_cons_succ, i64_w, i32_w]
           rfl
          refine pure_ (i := 11) (N := some 43) (v := ?_) (a' := ?_) #[true, true, true, true, true, true, true, true, true, true, true, true, false, false, false, false, false, false] rfl rfl (any_of HT_.out (by kernel_rfl)) (fun _ _ _ h => h) (Or.inl ⟨by rfl, ?_⟩) ?_ ?_
          rotate_left
          ·intro w'
           go_simp
           with_reducible rfl
          rotate_left
          ·simp only [Act.put, List.setIfInBounds_toArray, List.set_cons_zero, List.set_cons_succ, i64_w, i32_w]
           rfl
          refine pure_ (i := 12) (N := some 44) (v := ?_) (a' := ?_) #[true, true, true, true, true, true, true, true, true, true, true, true, true, false, false, false, false, false] rfl rfl (any_of HT_.out (by kernel_rfl)) (fun _ _ _ h => h) (Or.inl ⟨by rfl, ?_⟩) ?_ ?_
          rotate_left
          ·intro w'
           go_simp
           with_reducible rfl
          rotate_left
          ·simp only [Act.put, List.setIfInBounds_toArray, List.set_cons_zero, List.set_cons_succ, i64_w, i32_w]
           rfl
          refine one_ (i := 13) (N := some 15) #[true, true, true, true, true, true, true, true, true, true, true, true, true, true, false, false, false, false] rfl rfl (one_of HT_.out (by kernel_rfl)) (by decide) (fun K hK => ?_)
          refine box_step ?hg (N := 15) ?hd (cs := #[.int .i64 0, .int .i64 0, .int .i64 0, .string (⟨#[]⟩ : ByteArray)]) (t := 35) ?hr ?_; (case hd => rfl); (case hg => rfl); (case hr => first | (go_simp; done) | (go_simp; rfl))
          intro gb413 hg w33 hbox hb
          replace HO_10 := Aside0.mk (Kd.R_below (Kd.R_elderB (by (with_reducible repeat (first | apply Kd.R_alloc | apply Kd.R_drewN | apply Kd.R_drew)); exact HO_10.out) gb413 (Nat.le_of_eq hg.symm)) hb)
          have BK413 := Aside0.mk (hbox)
          have GW413 := Aside0.mk ((by rw [hg]; exact (below_size HB.out) : w.heap.size ≤ gb413))
          have GE413 := GW413
          replace HB := Aside0.mk (below_step HB.out hb)
          have NB401_413 := Aside0.mk ((by rw [hg]; exact Nat.ne_of_lt (blk_lt BK401.out) : gb401 ≠ gb413))
          have NB413_401 := Aside0.mk NB401_413.out.symm
          replace BK401 := Aside0.mk (blk_below BK401.out hb)
          have NB402_413 := Aside0.mk ((by rw [hg]; exact Nat.ne_of_lt (blk_lt BK402.out) : gb402 ≠ gb413))
          have NB413_402 := Aside0.mk NB402_413.out.symm
          replace BK402 := Aside0.mk (blk_below BK402.out hb)
          clear hb hbox hg
          refine hK.out _ _ (and_11 BK401.out (and_24 BK402.out ⟨((HB.out.cell (World.block_lt_of_cell? w _ hw405_0)).trans hw405_0), ((HB.out.cell (World.block_lt_of_cell? w _ hw405_1)).trans hw405_1), ((HB.out.cell (World.block_lt_of_cell? w _ hw405_2)).trans hw405_2), ((HB.out.cell (World.block_lt_of_cell? w _ hw405_3)).trans hw405_3), ((HB.out.cell (World.block_lt_of_cell? w _ hw405_4)).trans hw405_4), ((HB.out.cell (World.block_lt_of_cell? w _ hw405_5)).trans hw405_5)⟩)) (fun hHeld => ?_)
          clear hK K
          refine norm_ (a' := ?_) ?_ ?_
          rotate_left
          ·show Act.put _ (some 15) _ = _
           simp only [Act.put, List.setIfInBounds_toArray, List.set_cons_zero, List.set_cons_succ, i64_w, i32_w]
           rfl
          exact norm_ (by simp only [putAll, Act.put, List.setIfInBounds_toArray, List.set_cons_zero, List.set_cons_succ]) (hCont (gb413) _ ⟨hHeld, (by (with_reducible repeat (first | apply Kd.R_alloc | apply Kd.R_drewN | apply Kd.R_drew)); exact Kd.R_mono HO_10.out (fun _ hk => hk.2)), (by (with_reducible repeat (first | refine blk_drewN ?_ _ | refine blk_drew ?_ | refine blk_alloc ?_ _)); exact BK401.out), (by (with_reducible repeat (first | refine blk_drewN ?_ _ | refine blk_drew ?_ | refine blk_alloc ?_ _)); exact BK402.out), (by (with_reducible repeat (first | refine blk_drewN ?_ _ | refine blk_drew ?_ | refine blk_alloc ?_ _)); exact BK413.out), GW413.out, GE413.out, NB401_413.out, NB413_401.out, NB402_413.out, NB413_402.out, (by repeat (first | (with_reducible first | exact HB.out | apply below_alloc | apply pw_below_drewN | apply below_drew1 | refine below_set ?_ GE401.out | refine below_set ?_ GE402.out | refine below_set ?_ GE413.out) | exact HB.out))⟩)
         ·skip
          refine box_step ?hg (N := 15) ?hd (cs := #[.int .i64 0, .int .i64 0, .int .i64 0, .string (⟨#[]⟩ : ByteArray)]) (t := 35) ?hr ?_; (case hd => rfl); (case hg => rfl); (case hr => first | (go_simp; done) | (go_simp; rfl))
          intro gb413 hg w32 hbox hb
          replace HO_10 := Aside0.mk (Kd.R_below (Kd.R_elderB (by (with_reducible repeat (first | apply Kd.R_alloc | apply Kd.R_drewN | apply Kd.R_drew)); exact HO_10.out) gb413 (Nat.le_of_eq hg.symm)) hb)
          have BK413 := Aside0.mk (hbox)
          have GW413 := Aside0.mk ((by rw [hg]; exact (below_size HB.out) : w.heap.size ≤ gb413))
          have GE413 := GW413
          replace HB := Aside0.mk (below_step HB.out hb)
          have NB401_413 := Aside0.mk ((by rw [hg]; exact Nat.ne_of_lt (blk_lt BK401.out) : gb401 ≠ gb413))
          have NB413_401 := Aside0.mk NB401_413.out.symm
          replace BK401 := Aside0.mk (blk_below BK401.out hb)
          have NB402_413 := Aside0.mk ((by rw [hg]; exact Nat.ne_of_lt (blk_lt BK402.out) : gb402 ≠ gb413))
          have NB413_402 := Aside0.mk NB402_413.out.symm
          replace BK402 := Aside0.mk (blk_below BK402.out hb)
          clear hb hbox hg
          refine hK.out _ _ (and_11 BK401.out (and_24 BK402.out ⟨((HB.out.cell (World.block_lt_of_cell? w _ hw405_0)).trans hw405_0), ((HB.out.cell (World.block_lt_of_cell? w _ hw405_1)).trans hw405_1), ((HB.out.cell (World.block_lt_of_cell? w _ hw405_2)).trans hw405_2), ((HB.out.cell (World.block_lt_of_cell? w _ hw405_3)).trans hw405_3), ((HB.out.cell (World.block_lt_of_cell? w _ hw405_4)).trans hw405_4), ((HB.out.cell (World.block_lt_of_cell? w _ hw405_5)).trans hw405_5)⟩)) (fun hHeld => ?_)
          clear hK K
          refine norm_ (a' := ?_) ?_ ?_
          rotate_left
          ·show Act.put _ (some 15) _ = _
           simp only [Act.put, List.setIfInBounds_toArray, List.set_cons_zero, List.set_cons_succ, i64_w, i32_w]
           rfl
          refine one_ (i := 7) (N := some 40) #[true, true, true, true, true, true, true, true, false, false, false, false, false, true, false, false, false, false] rfl rfl (one_of HT_.out (by kernel_rfl)) (by decide) (fun K hK => ?_)
          refine goes_ Try.func9 (by kernel_rfl) rfl #[.agg #[.int .i64 a0_0, .int .i64 a0_1, .int .i64 a0_2, .int .i64 a0_3, .int .i64 a0_4, .int .i64 a0_5, .int .i64 a0_6, .int .i64 a0_7, .int .i64 a0_8, .int .i64 a0_9, .slice A0_10 l0_10.length c0_10], .agg #[.int .i64 a1_0, .int .i64 a1_1, .int .i64 a1_2, .string a1_3, .int .i64 a1_4, .string a1_5, .string a1_6, .int .i64 a1_7, .int .i64 a1_8, .string a1_9, .string x403010_1, .string x403011_1, .string a1_12, .string a1_13, .string a1_14, .slice A1_15 l1_15.length c1_15, .slice A1_16 l1_16.length c1_16, .slice A1_17 l1_17.length c1_17, .int .i64 a1_18, .int .i64 a1_19, .int .i64 a1_20, .int .i64 a1_21, .int .i64 a1_22, .int .i64 a1_23], .int .i64 x12_1, .agg #[.string ((rd_T32 l2 x12_1).f0), .int .i64 ((rd_T32 l2 x12_1).f1), .string ((rd_T32 l2 x12_1).f2), .int .i64 ((rd_T32 l2 x12_1).f3), .int .i64 ((rd_T32 l2 x12_1).f4), .string ((rd_T32 l2 x12_1).f5)]] (by rfl) rfl rfl (by (try simp only [List.map_toArray, List.map_cons, List.map_nil]); first | done | rfl) ?_
          with_reducible refine (r24_Take.calls k1 a0_0 a0_1 a0_2 a0_3 a0_4 a0_5 a0_6 a0_7 a0_8 a0_9 _ _ l0_10 a1_0 a1_1 a1_2 a1_3 a1_4 a1_5 a1_6 a1_7 a1_8 a1_9 x403010_1 x403011_1 a1_12 a1_13 a1_14 _ _ l1_15 _ _ l1_16 _ _ l1_17 a1_18 a1_19 a1_20 a1_21 a1_22 a1_23 x12_1 ((rd_T32 l2 x12_1).f0) ((rd_T32 l2 x12_1).f1) ((rd_T32 l2 x12_1).f2) ((rd_T32 l2 x12_1).f3) ((rd_T32 l2 x12_1).f4) ((rd_T32 l2 x12_1).f5) t406 t407 t408 t409 t410 t411 t412 _ ?side1 ?side2 ?side3 ?side4 ?side5 ?side6 ?side7 ?side8 A14.out).mono ?_
          (case side1 => exact (Kd.C_below HR0_10.out HB.out))
          (case side2 => exact HC0_10.out)
          (case side3 => exact (Kd.C_below HR1_15.out HB.out))
          (case side4 => exact HC1_15.out)
          (case side5 => exact (Kd.C_below HR1_16.out HB.out))
          (case side6 => exact HC1_16.out)
          (case side7 => exact (Kd.C_below HR1_17.out HB.out))
          (case side8 => exact HC1_17.out)
          rintro e w33 ⟨rfl, hb⟩
          refine ⟨_, rfl, ?_⟩
          replace HO_10 := Aside0.mk (Kd.R_below HO_10.out hb)
          replace BK401 := Aside0.mk (blk_below BK401.out hb)
          replace BK402 := Aside0.mk (blk_below BK402.out hb)
          replace BK413 := Aside0.mk (blk_below BK413.out hb)
          replace HB := Aside0.mk (below_step HB.out hb)
          (try clear hb)
          (try clear hb2)
          (try clear hk)
          (try clear hi)
          refine hK.out _ _ (and_11 BK401.out (and_24 BK402.out ⟨((HB.out.cell (World.block_lt_of_cell? w _ hw405_0)).trans hw405_0), ((HB.out.cell (World.block_lt_of_cell? w _ hw405_1)).trans hw405_1), ((HB.out.cell (World.block_lt_of_cell? w _ hw405_2)).trans hw405_2), ((HB.out.cell (World.block_lt_of_cell? w _ hw405_3)).trans hw405_3), ((HB.out.cell (World.block_lt_of_cell? w _ hw405_4)).trans hw405_4), ((HB.out.cell (World.block_lt_of_cell? w _ hw405_5)).trans hw405_5)⟩)) (fun hHeld => ?_)
          clear hK K
          refine norm_ (a' := ?_) ?_ ?_
          rotate_left
          ·show Act.put _ (some 40) _ = _
           simp only [Act.put, List.setIfInBounds_toArray, List.set_cons_zero, List.set_cons_succ, i64_w, i32_w]
           rfl
          refine pure_ (i := 8) (N := some 32) (v := ?_) (a' := ?_) #[true, true, true, true, true, true, true, true, true, false, false, false, false, true, false, false, false, false] rfl rfl (any_of HT_.out (by kernel_rfl)) (fun _ _ _ h => h) (Or.inl ⟨by rfl, ?_⟩) ?_ ?_
          rotate_left
          ·intro w'
           go_simp
           with_reducible rfl
          rotate_left
          ·simp only [Act.put, List.setIfInBounds_toArray, List.set_cons_zero, List.set_cons_succ, i64_w, i32_w]
           rfl
          refine pure_ (i := 9) (N := some 41) (v := ?_) (a' := ?_) #[true, true, true, true, true, true, true, true, true, true, false, false, false, true, false, false, false, false] rfl rfl (any_of HT_.out (by kernel_rfl)) (fun _ _ _ h => h) (Or.inl ⟨by rfl, ?_⟩) ?_ ?_
          rotate_left
          ·intro w'
           go_simp
           with_reducible rfl
          rotate_left
          ·simp only [Act.put, List.setIfInBounds_toArray, List.set_cons_zero, List.set_cons_succ, i64_w, i32_w]
           rfl
          refine pure_ (i := 10) (N := some 42) (v := ?_) (a' := ?_) #[true, true, true, true, true, true, true, true, true, true, true, false, false, true, false, false, false, false] rfl rfl (any_of HT_.out (by kernel_rfl)) (fun _ _ _ h => h) (Or.inl ⟨by rfl, ?_⟩) ?_ ?_
          rotate_left
          ·intro w'
           go_simp
           with_reducible rfl
          rotate_left
          ·simp only [Act.put, List.setIfInBounds_toArray, List.set_cons_zero, List.set_cons_succ, i64_w, i32_w]
           rfl
          refine pure_ (i := 11) (N := some 43) (v := ?_) (a' := ?_) #[true, true, true, true, true, true, true, true, true, true, true, true, false, true, false, false, false, false] rfl rfl (any_of HT_.out (by kernel_rfl)) (fun _ _ _ h => h) (Or.inl ⟨by rfl, ?_⟩) ?_ ?_
          rotate_left
          ·intro w'
           go_simp
           with_reducible rfl
          rotate_left
          ·simp only [Act.put, List.setIfInBounds_toArray, List.set_cons_zero, List.set_cons_succ, i64_w, i32_w]
           rfl
          refine pure_ (i := 12) (N := some 44) (v := ?_) (a' := ?_) #[true, true, true, true, true, true, true, true, true, true, true, true, true, true, false, false, false, false] rfl rfl (any_of HT_.out (by kernel_rfl)) (fun _ _ _ h => h) (Or.inl ⟨by rfl, ?_⟩) ?_ ?_
          rotate_left
          ·intro w'
           go_simp
           with_reducible rfl
          rotate_left
          ·simp only [Act.put, List.setIfInBounds_toArray, List.set_cons_zero, List.set_cons_succ, i64_w, i32_w]
           rfl
          exact norm_ (by simp only [putAll, Act.put, List.setIfInBounds_toArray, List.set_cons_zero, List.set_cons_succ]) (hCont (gb413) _ ⟨hHeld, (by (with_reducible repeat (first | apply Kd.R_alloc | apply Kd.R_drewN | apply Kd.R_drew)); exact Kd.R_mono HO_10.out (fun _ hk => hk.2)), (by (with_reducible repeat (first | refine blk_drewN ?_ _ | refine blk_drew ?_ | refine blk_alloc ?_ _)); exact BK401.out), (by (with_reducible repeat (first | refine blk_drewN ?_ _ | refine blk_drew ?_ | refine blk_alloc ?_ _)); exact BK402.out), (by (with_reducible repeat (first | refine blk_drewN ?_ _ | refine blk_drew ?_ | refine blk_alloc ?_ _)); exact BK413.out), GW413.out, GE413.out, NB401_413.out, NB413_401.out, NB402_413.out, NB413_402.out, (by repeat (first | (with_reducible first | exact HB.out | apply below_alloc | apply pw_below_drewN | apply below_drew1 | refine below_set ?_ GE401.out | refine below_set ?_ GE402.out | refine below_set ?_ GE413.out) | exact HB.out))⟩)
        rintro gb413 w34 ⟨hS_, h0_, h1_, h2_, h3_, h4_, h5_, h6_, h7_, h8_, h9_, h10_⟩
        have n0_ : Aside0 (Kd.R k35 35 w34 w.heap.size (fun k_ => k_ ≠ gb413) u10 x10_1) := ⟨h0_⟩
        have n1_ : Aside0 (w34.heap[gb401]? = some (.cells #[.int .i64 a0_0, .int .i64 a0_1, .int .i64 a0_2, .int .i64 a0_3, .int .i64 a0_4, .int .i64 a0_5, .int .i64 a0_6, .int .i64 a0_7, .int .i64 a0_8, .int .i64 a0_9, .slice A0_10 l0_10.length c0_10] 24 (0, 0))) := ⟨h1_⟩
        have n2_ : Aside0 (w34.heap[gb402]? = some (.cells #[.int .i64 a1_0, .int .i64 a1_1, .int .i64 a1_2, .string a1_3, .int .i64 a1_4, .string a1_5, .string a1_6, .int .i64 a1_7, .int .i64 a1_8, .string a1_9, .string x403010_1, .string x403011_1, .string a1_12, .string a1_13, .string a1_14, .slice A1_15 l1_15.length c1_15, .slice A1_16 l1_16.length c1_16, .slice A1_17 l1_17.length c1_17, .int .i64 a1_18, .int .i64 a1_19, .int .i64 a1_20, .int .i64 a1_21, .int .i64 a1_22, .int .i64 a1_23] 30 (0, 0))) := ⟨h2_⟩
        have n3_ : Aside0 (w34.heap[gb413]? = some (.cells #[.int .i64 0, .int .i64 0, .int .i64 0, .string (⟨#[]⟩ : ByteArray)] 35 (0, 0))) := ⟨h3_⟩
        have n4_ : Aside0 (w.heap.size ≤ gb413) := ⟨h4_⟩
        have n5_ : Aside0 (w.heap.size ≤ gb413) := ⟨h5_⟩
        have n6_ : Aside0 (gb401 ≠ gb413) := ⟨h6_⟩
        have n7_ : Aside0 (gb413 ≠ gb401) := ⟨h7_⟩
        have n8_ : Aside0 (gb402 ≠ gb413) := ⟨h8_⟩
        have n9_ : Aside0 (gb413 ≠ gb402) := ⟨h9_⟩
        have n10_ : Aside0 (Below w.heap.size w w34) := ⟨h10_⟩
        clear HO_10
        clear BK401
        clear BK402
        clear HB
        clear h0_ h1_ h2_ h3_ h4_ h5_ h6_ h7_ h8_ h9_ h10_
        have HO_10 := n0_
        have BK401 := n1_
        have BK402 := n2_
        have BK413 := n3_
        have GW413 := n4_
        have GE413 := n5_
        have NB401_413 := n6_
        have NB413_401 := n7_
        have NB402_413 := n8_
        have NB413_402 := n9_
        have HB := n10_
        clear n0_ n1_ n2_ n3_ n4_ n5_ n6_ n7_ n8_ n9_ n10_
        have hHeld : w34.cell? ⟨gb401, 0, none⟩ = some (.int .i64 a0_0) ∧ w34.cell? ⟨gb401, 1, none⟩ = some (.int .i64 a0_1) ∧ w34.cell? ⟨gb401, 2, none⟩ = some (.int .i64 a0_2) ∧ w34.cell? ⟨gb401, 3, none⟩ = some (.int .i64 a0_3) ∧ w34.cell? ⟨gb401, 4, none⟩ = some (.int .i64 a0_4) ∧ w34.cell? ⟨gb401, 5, none⟩ = some (.int .i64 a0_5) ∧ w34.cell? ⟨gb401, 6, none⟩ = some (.int .i64 a0_6) ∧ w34.cell? ⟨gb401, 7, none⟩ = some (.int .i64 a0_7) ∧ w34.cell? ⟨gb401, 8, none⟩ = some (.int .i64 a0_8) ∧ w34.cell? ⟨gb401, 9, none⟩ = some (.int .i64 a0_9) ∧ w34.cell? ⟨gb401, 10, none⟩ = some (.slice A0_10 l0_10.length c0_10) ∧ w34.cell? ⟨gb402, 0, none⟩ = some (.int .i64 a1_0) ∧ w34.cell? ⟨gb402, 1, none⟩ = some (.int .i64 a1_1) ∧ w34.cell? ⟨gb402, 2, none⟩ = some (.int .i64 a1_2) ∧ w34.cell? ⟨gb402, 3, none⟩ = some (.string a1_3) ∧ w34.cell? ⟨gb402, 4, none⟩ = some (.int .i64 a1_4) ∧ w34.cell? ⟨gb402, 5, none⟩ = some (.string a1_5) ∧ w34.cell? ⟨gb402, 6, none⟩ = some (.string a1_6) ∧ w34.cell? ⟨gb402, 7, none⟩ = some (.int .i64 a1_7) ∧ w34.cell? ⟨gb402, 8, none⟩ = some (.int .i64 a1_8) ∧ w34.cell? ⟨gb402, 9, none⟩ = some (.string a1_9) ∧ w34.cell? ⟨gb402, 10, none⟩ = some (.string x403010_1) ∧ w34.cell? ⟨gb402, 11, none⟩ = some (.string x403011_1) ∧ w34.cell? ⟨gb402, 12, none⟩ = some (.string a1_12) ∧ w34.cell? ⟨gb402, 13, none⟩ = some (.string a1_13) ∧ w34.cell? ⟨gb402, 14, none⟩ = some (.string a1_14) ∧ w34.cell? ⟨gb402, 15, none⟩ = some (.slice A1_15 l1_15.length c1_15) ∧ w34.cell? ⟨gb402, 16, none⟩ = some (.slice A1_16 l1_16.length c1_16) ∧ w34.cell? ⟨gb402, 17, none⟩ = some (.slice A1_17 l1_17.length c1_17) ∧ w34.cell? ⟨gb402, 18, none⟩ = some (.int .i64 a1_18) ∧ w34.cell? ⟨gb402, 19, none⟩ = some (.int .i64 a1_19) ∧ w34.cell? ⟨gb402, 20, none⟩ = some (.int .i64 a1_20) ∧ w34.cell? ⟨gb402, 21, none⟩ = some (.int .i64 a1_21) ∧ w34.cell? ⟨gb402, 22, none⟩ = some (.int .i64 a1_22) ∧ w34.cell? ⟨gb402, 23, none⟩ = some (.int .i64 a1_23) ∧ w34.cell? (ad404.add ((x12_1).toNat * 6)) = some (.string ((rd_T32 l2 x12_1).f0)) ∧ w34.cell? ⟨(ad404.add ((x12_1).toNat * 6)).block, (ad404.add ((x12_1).toNat * 6)).off + 1, none⟩ = some (.int .i64 ((rd_T32 l2 x12_1).f1)) ∧ w34.cell? ⟨(ad404.add ((x12_1).toNat * 6)).block, (ad404.add ((x12_1).toNat * 6)).off + 2, none⟩ = some (.string ((rd_T32 l2 x12_1).f2)) ∧ w34.cell? ⟨(ad404.add ((x12_1).toNat * 6)).block, (ad404.add ((x12_1).toNat * 6)).off + 3, none⟩ = some (.int .i64 ((rd_T32 l2 x12_1).f3)) ∧ w34.cell? ⟨(ad404.add ((x12_1).toNat * 6)).block, (ad404.add ((x12_1).toNat * 6)).off + 4, none⟩ = some (.int .i64 ((rd_T32 l2 x12_1).f4)) ∧ w34.cell? ⟨(ad404.add ((x12_1).toNat * 6)).block, (ad404.add ((x12_1).toNat * 6)).off + 5, none⟩ = some (.string ((rd_T32 l2 x12_1).f5)) := hS_
        refine norm_ (a' := ?_) ?_ ?_
        rotate_left
        ·simp only [putAll, Act.put, List.setIfInBounds_toArray, List.set_cons_zero, List.set_cons_succ]
         rfl
        refine pure_ (i := 14) (N := some 13) (v := ?_) (a' := ?_) #[true, true, true, true, true, true, true, true, true, true, true, true, true, true, true, false, false, false] rfl rfl (any_of HT_.out (by kernel_rfl)) (fun _ _ _ h => h) (Or.inl ⟨by rfl, ?_⟩) ?_ ?_
        rotate_left
        ·intro w'
         go_simp
         with_reducible rfl
        rotate_left
        ·simp only [Act.put, List.setIfInBounds_toArray, List.set_cons_zero, List.set_cons_succ, i64_w, i32_w]
         rfl
        refine pure_ (i := 15) (N := some 14) (v := ?_) (a' := ?_) #[true, true, true, true, true, true, true, true, true, true, true, true, true, true, true, true, false, false] rfl rfl (any_of HT_.out (by kernel_rfl)) (fun _ _ _ h => h) (Or.inl ⟨by rfl, ?_⟩) ?_ ?_
        rotate_left
        ·intro w'
         go_simp
         with_reducible rfl
        rotate_left
        ·simp only [Act.put, List.setIfInBounds_toArray, List.set_cons_zero, List.set_cons_succ, i64_w, i32_w]
         rfl
        refine one_ (i := 16) (N := none) #[true, true, true, true, true, true, true, true, true, true, true, true, true, true, true, true, true, false] rfl rfl (one_of HT_.out (by kernel_rfl)) (by decide) (fun K hK => ?_)
        have hs35 : w34.cell? ⟨gb413, 0, none⟩ = some (.int .i64 0) := (blk_cell BK413.out 0).trans rfl
        have hfs35 := blk_frozen BK413.out 0
        have hns35_0 := NB401_413.out
        have hns35_1 := NB402_413.out
        have hms35_0 := NB413_401.out
        have hms35_1 := NB413_402.out
        have hs36 : w34.cell? ⟨gb413, 1, none⟩ = some (.int .i64 0) := (blk_cell BK413.out 1).trans rfl
        have hfs36 := blk_frozen BK413.out 1
        have hns36_0 := NB401_413.out
        have hns36_1 := NB402_413.out
        have hms36_0 := NB413_401.out
        have hms36_1 := NB413_402.out
        have hs37 : w34.cell? ⟨gb413, 2, none⟩ = some (.int .i64 0) := (blk_cell BK413.out 2).trans rfl
        have hfs37 := blk_frozen BK413.out 2
        have hns37_0 := NB401_413.out
        have hns37_1 := NB402_413.out
        have hms37_0 := NB413_401.out
        have hms37_1 := NB413_402.out
        have hs38 : w34.cell? ⟨gb413, 3, none⟩ = some (.string (⟨#[]⟩ : ByteArray)) := (blk_cell BK413.out 3).trans rfl
        have hfs38 := blk_frozen BK413.out 3
        have hns38_0 := NB401_413.out
        have hns38_1 := NB402_413.out
        have hms38_0 := NB413_401.out
        have hms38_1 := NB413_402.out
        refine skip_ (w1 := ?_) (by rfl) rfl ?_ ?_
        rotate_left
        ·go_simp
         rfl
        refine hK.out _ _ (and_11 (blk_far (p := ⟨gb413, _, none⟩) (blk_far (p := ⟨gb413, _, none⟩) (blk_far (p := ⟨gb413, _, none⟩) (blk_far (p := ⟨gb413, _, none⟩) BK401.out NB401_413.out _) NB401_413.out _) NB401_413.out _) NB401_413.out _) (and_24 (blk_far (p := ⟨gb413, _, none⟩) (blk_far (p := ⟨gb413, _, none⟩) (blk_far (p := ⟨gb413, _, none⟩) (blk_far (p := ⟨gb413, _, none⟩) BK402.out NB402_413.out _) NB402_413.out _) NB402_413.out _) NB402_413.out _) ⟨((cell_far (p := ⟨gb413, _, none⟩) (far_held hw405_0 GW413.out) _).trans (((cell_far (p := ⟨gb413, _, none⟩) (far_held hw405_0 GW413.out) _).trans (((cell_far (p := ⟨gb413, _, none⟩) (far_held hw405_0 GW413.out) _).trans (((cell_far (p := ⟨gb413, _, none⟩) (far_held hw405_0 GW413.out) _).trans (hHeld.2.2.2.2.2.2.2.2.2.2.2.2.2.2.2.2.2.2.2.2.2.2.2.2.2.2.2.2.2.2.2.2.2.2.2.1)))))))), ((cell_far (p := ⟨gb413, _, none⟩) (far_held hw405_1 GW413.out) _).trans (((cell_far (p := ⟨gb413, _, none⟩) (far_held hw405_1 GW413.out) _).trans (((cell_far (p := ⟨gb413, _, none⟩) (far_held hw405_1 GW413.out) _).trans (((cell_far (p := ⟨gb413, _, none⟩) (far_held hw405_1 GW413.out) _).trans (hHeld.2.2.2.2.2.2.2.2.2.2.2.2.2.2.2.2.2.2.2.2.2.2.2.2.2.2.2.2.2.2.2.2.2.2.2.2.1)))))))), ((cell_far (p := ⟨gb413, _, none⟩) (far_held hw405_2 GW413.out) _).trans (((cell_far (p := ⟨gb413, _, none⟩) (far_held hw405_2 GW413.out) _).trans (((cell_far (p := ⟨gb413, _, none⟩) (far_held hw405_2 GW413.out) _).trans (((cell_far (p := ⟨gb413, _, none⟩) (far_held hw405_2 GW413.out) _).trans (hHeld.2.2.2.2.2.2.2.2.2.2.2.2.2.2.2.2.2.2.2.2.2.2.2.2.2.2.2.2.2.2.2.2.2.2.2.2.2.1)))))))), ((cell_far (p := ⟨gb413, _, none⟩) (far_held hw405_3 GW413.out) _).trans (((cell_far (p := ⟨gb413, _, none⟩) (far_held hw405_3 GW413.out) _).trans (((cell_far (p := ⟨gb413, _, none⟩) (far_held hw405_3 GW413.out) _).trans (((cell_far (p := ⟨gb413, _, none⟩) (far_held hw405_3 GW413.out) _).trans (hHeld.2.2.2.2.2.2.2.2.2.2.2.2.2.2.2.2.2.2.2.2.2.2.2.2.2.2.2.2.2.2.2.2.2.2.2.2.2.2.1)))))))), ((cell_far (p := ⟨gb413, _, none⟩) (far_held hw405_4 GW413.out) _).trans (((cell_far (p := ⟨gb413, _, none⟩) (far_held hw405_4 GW413.out) _).trans (((cell_far (p := ⟨gb413, _, none⟩) (far_held hw405_4 GW413.out) _).trans (((cell_far (p := ⟨gb413, _, none⟩) (far_held hw405_4 GW413.out) _).trans (hHeld.2.2.2.2.2.2.2.2.2.2.2.2.2.2.2.2.2.2.2.2.2.2.2.2.2.2.2.2.2.2.2.2.2.2.2.2.2.2.2.1)))))))), ((cell_far (p := ⟨gb413, _, none⟩) (far_held hw405_5 GW413.out) _).trans (((cell_far (p := ⟨gb413, _, none⟩) (far_held hw405_5 GW413.out) _).trans (((cell_far (p := ⟨gb413, _, none⟩) (far_held hw405_5 GW413.out) _).trans (((cell_far (p := ⟨gb413, _, none⟩) (far_held hw405_5 GW413.out) _).trans (hHeld.2.2.2.2.2.2.2.2.2.2.2.2.2.2.2.2.2.2.2.2.2.2.2.2.2.2.2.2.2.2.2.2.2.2.2.2.2.2.2.2))))))))⟩)) (fun hHeld => ?_)
        clear hK K
        refine pure_ (i := 17) (N := some 16) (v := ?_) (a' := ?_) #[true, true, true, true, true, true, true, true, true, true, true, true, true, true, true, true, true, true] rfl rfl (any_of HT_.out (by kernel_rfl)) (fun _ _ _ h => h) (Or.inl ⟨by rfl, ?_⟩) ?_ ?_
        rotate_left
        ·intro w'
         go_simp
         with_reducible rfl
        rotate_left
        ·simp only [Act.put, List.setIfInBounds_toArray, List.set_cons_zero, List.set_cons_succ, i64_w, i32_w]
         rfl
        refine done_ (done_of HT_.out (by kernel_rfl)) ?_
        try go_wp2
        go_roundg k1
        case measure => have := HK1.out; omega
        case rel => exact ⟨(x10_1), (wrap64 (x11_1 + 1)), (wrap64 (x12_1 + 1)), (x403010_1), (x403011_1), (by first | rfl | (simp; done) | (simp [*]; done)), (by first | rfl | (simp; done) | (simp [*]; done)), H', ⟨by have := HK1.out; omega⟩, ⟨by (with_reducible repeat (first | apply Kd.R_alloc | apply Kd.R_drewN | apply Kd.R_drew)); exact Kd.R_mono (Kd.R_far (p := ⟨gb413, 3, none⟩) (Kd.R_far (p := ⟨gb413, 2, none⟩) (Kd.R_far (p := ⟨gb413, 1, none⟩) (Kd.R_far (p := ⟨gb413, 0, none⟩) (Kd.R_mono HO_10.out (fun k_ hk => (⟨hk, hk⟩ : _ ∧ k_ ≠ gb413))) (fun _ hk => hk.2) (.int .i64 t408)) (fun _ hk => hk.2) (.int .i64 t409)) (fun _ hk => hk.2) (.int .i64 t410)) (fun _ hk => hk.2) (.string t411)) (fun _ hk => trivial)⟩, ⟨by (iterate 4 ((with_reducible repeat (first | refine blk_drewN ?_ _ | refine blk_drew ?_ | refine blk_alloc ?_ _)); refine blk_far ?_ NB401_413.out _)); (with_reducible repeat (first | refine blk_drewN ?_ _ | refine blk_drew ?_ | refine blk_alloc ?_ _)); exact BK401.out⟩, ⟨by (iterate 4 ((with_reducible repeat (first | refine blk_drewN ?_ _ | refine blk_drew ?_ | refine blk_alloc ?_ _)); refine blk_far ?_ NB402_413.out _)); (with_reducible repeat (first | refine blk_drewN ?_ _ | refine blk_drew ?_ | refine blk_alloc ?_ _)); exact BK402.out⟩, ⟨by repeat (first | (with_reducible first | exact HB.out | apply below_alloc | apply pw_below_drewN | apply below_drew1 | refine below_set ?_ GE401.out | refine below_set ?_ GE402.out | refine below_set ?_ GE413.out) | exact HB.out)⟩⟩
     ·rw [if_neg c12] at H
      exact absurd H (by simp)
    ·rw [if_neg c11] at H
     have c11b0 : decide (x12_1 < (l2.length : Int)) = false := decide_eq_false c11
     clear c11
     simp only [Option.some.injEq, Prod.mk.injEq] at H
     obtain ⟨rfl, rfl, rfl, rfl⟩ := H
     try go_wp2
     replace HO_10 := Aside0.mk (Kd.R_drew HO_10.out)
     replace BK401 := Aside0.mk (blk_drew BK401.out)
     replace BK402 := Aside0.mk (blk_drew BK402.out)
     replace HB := Aside0.mk (below_drew1 HB.out)
     refine start_ (n := 10) (S := fun w' => w'.cell? ⟨gb402, 0, none⟩ = some (.int .i64 a1_0) ∧ w'.cell? ⟨gb402, 1, none⟩ = some (.int .i64 a1_1) ∧ w'.cell? ⟨gb402, 2, none⟩ = some (.int .i64 a1_2) ∧ w'.cell? ⟨gb402, 3, none⟩ = some (.string a1_3) ∧ w'.cell? ⟨gb402, 4, none⟩ = some (.int .i64 a1_4) ∧ w'.cell? ⟨gb402, 5, none⟩ = some (.string a1_5) ∧ w'.cell? ⟨gb402, 6, none⟩ = some (.string a1_6) ∧ w'.cell? ⟨gb402, 7, none⟩ = some (.int .i64 a1_7) ∧ w'.cell? ⟨gb402, 8, none⟩ = some (.int .i64 a1_8) ∧ w'.cell? ⟨gb402, 9, none⟩ = some (.string a1_9) ∧ w'.cell? ⟨gb402, 10, none⟩ = some (.string x403010_1) ∧ w'.cell? ⟨gb402, 11, none⟩ = some (.string x403011_1) ∧ w'.cell? ⟨gb402, 12, none⟩ = some (.string a1_12) ∧ w'.cell? ⟨gb402, 13, none⟩ = some (.string a1_13) ∧ w'.cell? ⟨gb402, 14, none⟩ = some (.string a1_14) ∧ w'.cell? ⟨gb402, 15, none⟩ = some (.slice A1_15 l1_15.length c1_15) ∧ w'.cell? ⟨gb402, 16, none⟩ = some (.slice A1_16 l1_16.length c1_16) ∧ w'.cell? ⟨gb402, 17, none⟩ = some (.slice A1_17 l1_17.length c1_17) ∧ w'.cell? ⟨gb402, 18, none⟩ = some (.int .i64 a1_18) ∧ w'.cell? ⟨gb402, 19, none⟩ = some (.int .i64 a1_19) ∧ w'.cell? ⟨gb402, 20, none⟩ = some (.int .i64 a1_20) ∧ w'.cell? ⟨gb402, 21, none⟩ = some (.int .i64 a1_21) ∧ w'.cell? ⟨gb402, 22, none⟩ = some (.int .i64 a1_22) ∧ w'.cell? ⟨gb402, 23, none⟩ = some (.int .i64 a1_23)) (ds := []) #[false, false, false, false, false, false, false, false, false, false] (by kernel_rfl) rfl rfl ⟨(blk_cell BK402.out 0).trans rfl, (blk_cell BK402.out 1).trans rfl, (blk_cell BK402.out 2).trans rfl, (blk_cell BK402.out 3).trans rfl, (blk_cell BK402.out 4).trans rfl, (blk_cell BK402.out 5).trans rfl, (blk_cell BK402.out 6).trans rfl, (blk_cell BK402.out 7).trans rfl, (blk_cell BK402.out 8).trans rfl, (blk_cell BK402.out 9).trans rfl, (blk_cell BK402.out 10).trans rfl, (blk_cell BK402.out 11).trans rfl, (blk_cell BK402.out 12).trans rfl, (blk_cell BK402.out 13).trans rfl, (blk_cell BK402.out 14).trans rfl, (blk_cell BK402.out 15).trans rfl, (blk_cell BK402.out 16).trans rfl, (blk_cell BK402.out 17).trans rfl, (blk_cell BK402.out 18).trans rfl, (blk_cell BK402.out 19).trans rfl, (blk_cell BK402.out 20).trans rfl, (blk_cell BK402.out 21).trans rfl, (blk_cell BK402.out 22).trans rfl, (blk_cell BK402.out 23).trans rfl⟩ (fun hHeld => ?_); refine with_tabW r24_All.tab15 r24_All.bits15 (fun HT_ HW_ => ?_)
     generalize wr.drew = w39 at HO_10 BK401 BK402 HB hHeld ⊢
     refine pure_ (i := 0) (N := some 57) (v := ?_) (a' := ?_) #[true, false, false, false, false, false, false, false, false, false] rfl rfl (any_of HT_.out (by kernel_rfl)) (fun _ _ _ h => h) (Or.inl ⟨by rfl, ?_⟩) ?_ ?_
     rotate_left
     ·intro w'
      go_simp
      with_reducible rfl
     rotate_left
     ·simp only [Act.put, List.setIfInBounds_toArray, List.set_cons_zero, List.set_cons_succ, i64_w, i32_w]
      rfl
     refine pure_ (i := 2) (N := some 59) (v := ?_) (a' := ?_) #[true, false, true, false, false, false, false, false, false, false] rfl rfl (any_of HT_.out (by kernel_rfl)) (fun _ _ _ h => h) (Or.inl ⟨by rfl, ?_⟩) ?_ ?_
     rotate_left
     ·intro w'
      go_simp
      with_reducible rfl
     rotate_left
     ·simp only [Act.put, List.setIfInBounds_toArray, List.set_cons_zero, List.set_cons_succ, i64_w, i32_w]
      rfl
     refine pure_ (i := 4) (N := some 61) (v := ?_) (a' := ?_) #[true, false, true, false, true, false, false, false, false, false] rfl rfl (any_of HT_.out (by kernel_rfl)) (fun _ _ _ h => h) (Or.inl ⟨by rfl, ?_⟩) ?_ ?_
     rotate_left
     ·intro w'
      go_simp
      with_reducible rfl
     rotate_left
     ·simp only [Act.put, List.setIfInBounds_toArray, List.set_cons_zero, List.set_cons_succ, i64_w, i32_w]
      rfl
     refine pure_ (i := 5) (N := some 62) (v := ?_) (a' := ?_) #[true, false, true, false, true, true, false, false, false, false] rfl rfl (any_of HT_.out (by kernel_rfl)) (fun _ _ _ h => h) (Or.inl ⟨by rfl, ?_⟩) ?_ ?_
     rotate_left
     ·intro w'
      go_simp
      with_reducible rfl
     rotate_left
     ·simp only [Act.put, List.setIfInBounds_toArray, List.set_cons_zero, List.set_cons_succ, i64_w, i32_w]
      rfl
     refine take_ (i := 1) (N := some 58) (v := ?_) (a' := ?_) #[true, true, true, false, true, true, false, false, false, false] rfl rfl (take_ofW HT_.out HW_.out (by kernel_rfl)) (fun _ _ _ h => h) (Or.inl ⟨by rfl, ?_⟩) hHeld ?_ ?_
     rotate_left
     ·rintro w' ⟨s0, s1, s2, s3, s4, s5, s6, s7, s8, s9, s10, s11, s12, s13, s14, s15, s16, s17, s18, s19, s20, s21, s22, s23⟩
      (first | (refine load_cells_24 (ty := 30) (x := .tmp 4) (g := gb402) ?hlo_ ?hx_ Try.underlying30 ?hd_ ?hi_ s0 s1 s2 s3 s4 s5 s6 s7 s8 s9 s10 s11 s12 s13 s14 s15 s16 s17 s18 s19 s20 s21 s22 s23; (case hlo_ => rfl); (case hx_ => rfl); (case hd_ => rfl); (case hi_ => kernel_rfl)) | (go_simp; with_reducible rfl))
     rotate_left
     ·simp only [Act.put, List.setIfInBounds_toArray, List.set_cons_zero, List.set_cons_succ, i64_w, i32_w]
      rfl
     refine pure_ (i := 6) (N := some 6) (v := ?_) (a' := ?_) #[true, true, true, false, true, true, true, false, false, false] rfl rfl (any_of HT_.out (by kernel_rfl)) (fun _ _ _ h => h) (Or.inl ⟨by rfl, ?_⟩) ?_ ?_
     rotate_left
     ·intro w'
      go_simp
      with_reducible rfl
     rotate_left
     ·simp only [Act.put, List.setIfInBounds_toArray, List.set_cons_zero, List.set_cons_succ, i64_w, i32_w]
      rfl
     refine take_ (i := 3) (N := some 60) (v := ?_) (a' := ?_) #[true, true, true, true, true, true, true, false, false, false] rfl rfl (take_ofW HT_.out HW_.out (by kernel_rfl)) (fun _ _ _ h => h) (Or.inl ⟨by rfl, ?_⟩) hHeld ?_ ?_
     rotate_left
     ·rintro w' ⟨s0, s1, s2, s3, s4, s5, s6, s7, s8, s9, s10, s11, s12, s13, s14, s15, s16, s17, s18, s19, s20, s21, s22, s23⟩
      (first | (refine load_cells_24 (ty := 30) (x := .tmp 4) (g := gb402) ?hlo_ ?hx_ Try.underlying30 ?hd_ ?hi_ s0 s1 s2 s3 s4 s5 s6 s7 s8 s9 s10 s11 s12 s13 s14 s15 s16 s17 s18 s19 s20 s21 s22 s23; (case hlo_ => rfl); (case hx_ => rfl); (case hd_ => rfl); (case hi_ => kernel_rfl)) | (go_simp; with_reducible rfl))
     rotate_left
     ·simp only [Act.put, List.setIfInBounds_toArray, List.set_cons_zero, List.set_cons_succ, i64_w, i32_w]
      rfl
     refine pure_ (i := 7) (N := some 7) (v := ?_) (a' := ?_) #[true, true, true, true, true, true, true, true, false, false] rfl rfl (any_of HT_.out (by kernel_rfl)) (fun _ _ _ h => h) (Or.inl ⟨by rfl, ?_⟩) ?_ ?_
     rotate_left
     ·intro w'
      go_simp
      with_reducible rfl
     rotate_left
     ·simp only [Act.put, List.setIfInBounds_toArray, List.set_cons_zero, List.set_cons_succ, i64_w, i32_w]
      rfl
     refine pure_ (i := 8) (N := some 8) (v := ?_) (a' := ?_) #[true, true, true, true, true, true, true, true, true, false] rfl rfl (any_of HT_.out (by kernel_rfl)) (fun _ _ _ h => h) (Or.inl ⟨by rfl, ?_⟩) ?_ ?_
     rotate_left
     ·intro w'
      go_simp
      with_reducible rfl
     rotate_left
     ·simp only [Act.put, List.setIfInBounds_toArray, List.set_cons_zero, List.set_cons_succ, i64_w, i32_w]
      rfl
     refine pure_ (i := 9) (N := some 9) (v := ?_) (a' := ?_) #[true, true, true, true, true, true, true, true, true, true] rfl rfl (any_of HT_.out (by kernel_rfl)) (fun _ _ _ h => h) (Or.inl ⟨by rfl, ?_⟩) ?_ ?_
     rotate_left
     ·intro w'
      go_simp
      with_reducible rfl
     rotate_left
     ·simp only [Act.put, List.setIfInBounds_toArray, List.set_cons_zero, List.set_cons_succ, i64_w, i32_w]
      rfl
     refine done_ (done_of HT_.out (by kernel_rfl)) ?_
     try go_wp2
     refine bodyPost_ret (results_list (rs := [.tmp 6, .tmp 7, .tmp 8, .tmp 9]) rfl (by simp) (.tmp (.tmp (.tmp (.tmp .nil))))) rfl ?_
     exact ⟨_, by first | rfl | (simp [*] <;> rfl), by (with_reducible repeat (first | apply Kd.R_alloc | apply Kd.R_drewN | apply Kd.R_drew)); exact HO_10.out, by repeat (first | (with_reducible first | exact HB.out | apply below_alloc | apply pw_below_drewN | apply below_drew1 | refine below_set ?_ GE401.out | refine below_set ?_ GE402.out) | exact HB.out)⟩
 ·rw [if_neg c5] at H
  have c5b0 : (t403 == 0) = false := beq_eq_false_iff_ne.mpr c5
  have c5b1 : (t403 != 0) = true := bne_iff_ne.mpr c5
  simp only [Option.some.injEq, Prod.mk.injEq] at H
  obtain ⟨rfl, rfl, rfl, rfl⟩ := H
  go_enter Try.func13, Try.ntmps13
  go_wp2_with (first | ((with_reducible refine gate_load (t := 30) (x := .tmp 4) rfl ?_); refine load_row_g (cs := ?_) ?hw 30 (.tmp 4) ?h2 gb402 ?hx 30 (fr := (0, 0)) (d := ?_) ?hg ?h3 ?h4 ?hi ?_; (case hw => first | (with_reducible rfl) | (go_simp; done) | rfl); (case h2 => rfl); (case hx => first | (with_reducible rfl) | (go_simp; done) | rfl); (case hg => (with_reducible repeat (first | refine blk_drewN ?_ _ | refine blk_drew ?_ | refine blk_alloc ?_ _)); with_reducible exact BK402.out); (case h3 => exact Try.underlying30); (case h4 => rfl); (case hi => kernel_rfl)) | ((with_reducible refine gate_dst (N := 3) rfl ?_); refine box_event ?hg (N := 3) ?hd (cs := #[.int .i64 a0_0, .int .i64 a0_1, .int .i64 a0_2, .int .i64 a0_3, .int .i64 a0_4, .int .i64 a0_5, .int .i64 a0_6, .int .i64 a0_7, .int .i64 a0_8, .int .i64 a0_9, .slice A0_10 l0_10.length c0_10]) (t := 24) ?hr ?_; (case hd => rfl); (case hg => rfl); (case hr => first | (go_simp; done) | (go_simp; rfl)); intro gb401 hg w40 hbox hb; have BK401 := Aside0.mk (hbox); have GW401 := Aside0.mk ((by rw [hg]; exact (below_size HB.out) : w.heap.size ≤ gb401)); have GE401 := GW401; replace HB := Aside0.mk (below_step HB.out hb); clear hb hbox hg) | ((with_reducible refine gate_dst (N := 4) rfl ?_); refine box_event ?hg (N := 4) ?hd (cs := #[.int .i64 a1_0, .int .i64 a1_1, .int .i64 a1_2, .string a1_3, .int .i64 a1_4, .string a1_5, .string a1_6, .int .i64 a1_7, .int .i64 a1_8, .string a1_9, .string a1_10, .string a1_11, .string a1_12, .string a1_13, .string a1_14, .slice A1_15 l1_15.length c1_15, .slice A1_16 l1_16.length c1_16, .slice A1_17 l1_17.length c1_17, .int .i64 a1_18, .int .i64 a1_19, .int .i64 a1_20, .int .i64 a1_21, .int .i64 a1_22, .int .i64 a1_23]) (t := 30) ?hr ?_; (case hd => rfl); (case hg => rfl); (case hr => first | (go_simp; done) | (go_simp; rfl)); intro gb402 hg w41 hbox hb; have BK402 := Aside0.mk (hbox); have GW402 := Aside0.mk ((by rw [hg]; exact (below_size HB.out) : w.heap.size ≤ gb402)); have GE402 := GW402; replace HB := Aside0.mk (below_step HB.out hb); have NB401_402 := Aside0.mk ((by rw [hg]; exact Nat.ne_of_lt (blk_lt BK401.out) : gb401 ≠ gb402)); have NB402_401 := Aside0.mk NB401_402.out.symm; replace BK401 := Aside0.mk (blk_below BK401.out hb); clear hb hbox hg; have hnb42 := NB401_402.out; have hnc42 := NB402_401.out; obtain ⟨hcz43_0, hcz43_1, hcz43_2, hcz43_3, hcz43_4, hcz43_5, hcz43_6, hcz43_7, hcz43_8, hcz43_9, hcz43_10⟩ := cells_11 BK401.out; obtain ⟨hfz43_0, hfz43_1, hfz43_2, hfz43_3, hfz43_4, hfz43_5, hfz43_6, hfz43_7, hfz43_8, hfz43_9, hfz43_10⟩ := frozen_11 BK401.out) | ((with_reducible refine gate_callee (f := 30) rfl ?_); refine goesL_ (some 18) rfl rfl Try.func30 (by kernel_rfl) rfl #[.agg #[.int .i64 a0_0, .int .i64 a0_1, .int .i64 a0_2, .int .i64 a0_3, .int .i64 a0_4, .int .i64 a0_5, .int .i64 a0_6, .int .i64 a0_7, .int .i64 a0_8, .int .i64 a0_9, .slice A0_10 l0_10.length c0_10]] rfl (by (try simp only [List.map_toArray, List.map_cons, List.map_nil]); first | done | rfl) ?_; (with_reducible refine (r03_Plain.calls k a0_0 a0_1 a0_2 a0_3 a0_4 a0_5 a0_6 a0_7 a0_8 a0_9 _ _ l0_10 t403 _ ?side1 ?side2 A4.out).mono ?_); (case side1 => exact (Kd.C_below HR0_10.out HB.out)); (case side2 => exact HC0_10.out); rintro e w44 ⟨rfl, hb⟩; refine ⟨_, rfl, ?_⟩; replace BK401 := Aside0.mk (blk_below BK401.out hb); replace BK402 := Aside0.mk (blk_below BK402.out hb); replace HB := Aside0.mk (below_step HB.out hb); (try clear hb)))
  refine bodyPost_ret (results_list (rs := [.tmp 6, .tmp 7, .tmp 8, .tmp 9]) rfl (by simp) (.tmp (.tmp (.tmp (.tmp .nil))))) rfl ?_
  exact ⟨_, by first | rfl | (simp [*] <;> rfl), by first | exact Kd.R_nil _ _ _ _ _ | exact Kd.N_nil _ _ _ _ _ | exact Kd.V_nil _ _ _ _ _ | exact Kd.Q_nil _ _ _ _ _ | exact Kd.S_nil _ _ _ _ _, by repeat (first | (with_reducible first | exact HB.out | apply below_alloc | apply pw_below_drewN | apply below_drew1 | refine below_set ?_ GE401.out | refine below_set ?_ GE402.out) | exact HB.out)⟩
end Go.Proofs.Ytebflimijebbnaa.Gn
