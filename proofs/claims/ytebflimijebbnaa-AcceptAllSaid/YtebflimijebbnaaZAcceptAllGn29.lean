import Derived.Test.YtebflimijebbnaaZAcceptAllGn0
import Derived.Test.YtebflimijebbnaaZAcceptAllGn2
import Derived.Test.YtebflimijebbnaaZAcceptAllGn21
import Derived.Test.YtebflimijebbnaaZAcceptAllGn22
import Derived.Test.YtebflimijebbnaaZAcceptAllGn23
import Derived.Test.YtebflimijebbnaaZAcceptAllGn25
import Derived.Test.YtebflimijebbnaaZAcceptAllGn26
namespace Go.Proofs.Ytebflimijebbnaa.Gn
open Go.RowKit Go.Proofs.YtebflimijebbnaaW.PrintWords Go.Proofs.YtebflimijebbnaaW.PrintLast Go.Proofs.YtebflimijebbnaaW.PrintMore
attribute [local go_sem] max2_int min2_int max_two min_two max_three min_three max_four min_four   -- for this text's walks alone
set_option linter.unusedVariables false
set_option linter.unusedSimpArgs false
mutual
def r24_Check.j0 : Nat → Int → Bool → Int → Int → Int → Int → Int → Int → Int → Int → Int → Int → List Int → Int → Int → Int → ByteArray → Int → ByteArray → ByteArray → Int → Int → ByteArray → ByteArray → ByteArray → ByteArray → ByteArray → ByteArray → List (S99) → List ByteArray → List (S101) → Int → Int → Int → Int → Int → Int → ByteArray → Int → ByteArray → Int → Int → ByteArray → Option (Int)
 | 0, _, _, _, _, _, _, _, _, _, _, _, _, _, _, _, _, _, _, _, _, _, _, _, _, _, _, _, _, _, _, _, _, _, _, _, _, _, _, _, _, _, _, _ => none
 | k + 1, x2, x27, x402000, x402001, x402002, x402003, x402004, x402005, x402006, x402007, x402008, x402009, x402010, x403000, x403001, x403002, x403003, x403004, x403005, x403006, x403007, x403008, x403009, x403010, x403011, x403012, x403013, x403014, x403015, x403016, x403017, x403018, x403019, x403020, x403021, x403022, x403023, x404000, x404001, x404002, x404003, x404004, x404005 => if x27 = true then (some 11) else ((r23_Sync.f x403000 x403001 x403002 x403003 x403004 x403005 x403006 x403007 x403008 x403009 x403010 x403011 x403012 x403013 x403014 x403015 x403016 x403017 x403018 x403019 x403020 x403021 x403022 x403023).bind fun t406 => (if t406 = true then ((r21_Owner.f k x402000 x402001 x402002 x402003 x402004 x402005 x402006 x402007 x402008 x402009 x402010 (wrap64 (x404003 - 1))).bind fun t407 => (if t407 = x2 then ((r22_Window.f k x402000 x402001 x402002 x402003 x402004 x402005 x402006 x402007 x402008 x402009 x402010 (wrap64 (x404003 - 1))).bind fun bt408 => ((r22_Elapsed.f x403000 x403001).bind fun t410 => (if t410 < bt408.1 then (r24_Check.j1 k true x403000 x403001 x403002 x403003 x403004 x403005 x403006 x403007 x403008 x403009 x403010 x403011 x403012 x403013 x403014 x403015 x403016 x403017 x403018 x403019 x403020 x403021 x403022 x403023 x404000 x404001 x404002 x404003 x404004 x404005) else (r24_Check.j1 k (decide (t410 > bt408.2)) x403000 x403001 x403002 x403003 x403004 x403005 x403006 x403007 x403008 x403009 x403010 x403011 x403012 x403013 x403014 x403015 x403016 x403017 x403018 x403019 x403020 x403021 x403022 x403023 x404000 x404001 x404002 x404003 x404004 x404005)))) else (some 12))) else (some 14)))
def r24_Check.j1 : Nat → Bool → Int → Int → Int → ByteArray → Int → ByteArray → ByteArray → Int → Int → ByteArray → ByteArray → ByteArray → ByteArray → ByteArray → ByteArray → List (S99) → List ByteArray → List (S101) → Int → Int → Int → Int → Int → Int → ByteArray → Int → ByteArray → Int → Int → ByteArray → Option (Int)
 | 0, _, _, _, _, _, _, _, _, _, _, _, _, _, _, _, _, _, _, _, _, _, _, _, _, _, _, _, _, _, _, _ => none
 | k + 1, x58, x403000, x403001, x403002, x403003, x403004, x403005, x403006, x403007, x403008, x403009, x403010, x403011, x403012, x403013, x403014, x403015, x403016, x403017, x403018, x403019, x403020, x403021, x403022, x403023, x404000, x404001, x404002, x404003, x404004, x404005 => if x58 = true then (some 10) else (if x404004 = x403007 then (if (x404005.size : Int) > 16 then (some 15) else ((r23_Has.f x403011 (wrap64 (x404003 - 1))).bind fun t411 => (if t411 = true then (some 13) else (some 0)))) else (some 16))
end
def r24_Check.f (k : Nat) (a0_0 a0_1 a0_2 a0_3 a0_4 a0_5 a0_6 a0_7 a0_8 a0_9 : Int) (l0_10 : List Int) (a1_0 a1_1 a1_2 : Int) (a1_3 : ByteArray) (a1_4 : Int) (a1_5 a1_6 : ByteArray) (a1_7 a1_8 : Int) (a1_9 a1_10 a1_11 a1_12 a1_13 a1_14 : ByteArray) (l1_15 : List (S99)) (l1_16 : List ByteArray) (l1_17 : List (S101)) (a1_18 a1_19 a1_20 a1_21 a1_22 a1_23 a2 : Int) (a3_0 : ByteArray) (a3_1 : Int) (a3_2 : ByteArray) (a3_3 a3_4 : Int) (a3_5 : ByteArray) : Option (Int) := (r03_Plain.f k a0_0 a0_1 a0_2 a0_3 a0_4 a0_5 a0_6 a0_7 a0_8 a0_9 l0_10).bind fun t404 => (if t404 = 0 then (if a3_3 < 1 then (r24_Check.j0 k a2 true a0_0 a0_1 a0_2 a0_3 a0_4 a0_5 a0_6 a0_7 a0_8 a0_9 l0_10 a1_0 a1_1 a1_2 a1_3 a1_4 a1_5 a1_6 a1_7 a1_8 a1_9 a1_10 a1_11 a1_12 a1_13 a1_14 l1_15 l1_16 l1_17 a1_18 a1_19 a1_20 a1_21 a1_22 a1_23 a3_0 a3_1 a3_2 a3_3 a3_4 a3_5) else (r24_Check.j0 k a2 (decide (a3_3 > (l0_10.length : Int))) a0_0 a0_1 a0_2 a0_3 a0_4 a0_5 a0_6 a0_7 a0_8 a0_9 l0_10 a1_0 a1_1 a1_2 a1_3 a1_4 a1_5 a1_6 a1_7 a1_8 a1_9 a1_10 a1_11 a1_12 a1_13 a1_14 l1_15 l1_16 l1_17 a1_18 a1_19 a1_20 a1_21 a1_22 a1_23 a3_0 a3_1 a3_2 a3_3 a3_4 a3_5)) else ((r03_Plain.f k a0_0 a0_1 a0_2 a0_3 a0_4 a0_5 a0_6 a0_7 a0_8 a0_9 l0_10).bind fun t405 => (some t405)))
set_option maxHeartbeats 8000000 in
set_option maxRecDepth 100000 in
theorem r24_Check.calls (k : Nat) (a0_0 a0_1 a0_2 a0_3 a0_4 a0_5 a0_6 a0_7 a0_8 a0_9 : Int) (A0_10 : Option Addr) (c0_10 : Nat) (l0_10 : List Int) (a1_0 a1_1 a1_2 : Int) (a1_3 : ByteArray) (a1_4 : Int) (a1_5 a1_6 : ByteArray) (a1_7 a1_8 : Int) (a1_9 a1_10 a1_11 a1_12 a1_13 a1_14 : ByteArray) (A1_15 : Option Addr) (c1_15 : Nat) (l1_15 : List (S99)) (A1_16 : Option Addr) (c1_16 : Nat) (l1_16 : List ByteArray) (A1_17 : Option Addr) (c1_17 : Nat) (l1_17 : List (S101)) (a1_18 a1_19 a1_20 a1_21 a1_22 a1_23 a2 : Int) (a3_0 : ByteArray) (a3_1 : Int) (a3_2 : ByteArray) (a3_3 a3_4 : Int) (a3_5 : ByteArray) (r : Int) (w : World) (hr0_10 : Kd.C (Kd.int .i64) w A0_10 l0_10.length l0_10) (hc0_10 : l0_10.length ≤ c0_10) (hr1_15 : Kd.C k99 w A1_15 l1_15.length l1_15) (hc1_15 : l1_15.length ≤ c1_15) (hr1_16 : Kd.C Kd.string w A1_16 l1_16.length l1_16) (hc1_16 : l1_16.length ≤ c1_16) (hr1_17 : Kd.C k101 w A1_17 l1_17.length l1_17) (hc1_17 : l1_17.length ≤ c1_17) (h : r24_Check.f k a0_0 a0_1 a0_2 a0_3 a0_4 a0_5 a0_6 a0_7 a0_8 a0_9 l0_10 a1_0 a1_1 a1_2 a1_3 a1_4 a1_5 a1_6 a1_7 a1_8 a1_9 a1_10 a1_11 a1_12 a1_13 a1_14 l1_15 l1_16 l1_17 a1_18 a1_19 a1_20 a1_21 a1_22 a1_23 a2 a3_0 a3_1 a3_2 a3_3 a3_4 a3_5 = some r) :
  Calls Try.prog 11 #[.agg #[.int .i64 a0_0, .int .i64 a0_1, .int .i64 a0_2, .int .i64 a0_3, .int .i64 a0_4, .int .i64 a0_5, .int .i64 a0_6, .int .i64 a0_7, .int .i64 a0_8, .int .i64 a0_9, .slice A0_10 l0_10.length c0_10], .agg #[.int .i64 a1_0, .int .i64 a1_1, .int .i64 a1_2, .string a1_3, .int .i64 a1_4, .string a1_5, .string a1_6, .int .i64 a1_7, .int .i64 a1_8, .string a1_9, .string a1_10, .string a1_11, .string a1_12, .string a1_13, .string a1_14, .slice A1_15 l1_15.length c1_15, .slice A1_16 l1_16.length c1_16, .slice A1_17 l1_17.length c1_17, .int .i64 a1_18, .int .i64 a1_19, .int .i64 a1_20, .int .i64 a1_21, .int .i64 a1_22, .int .i64 a1_23], .int .i64 a2, .agg #[.string a3_0, .int .i64 a3_1, .string a3_2, .int .i64 a3_3, .int .i64 a3_4, .string a3_5]] w fun e w' => e = .returned (.int .i64 r) ∧ Below w.heap.size w w' := by
 have hu24 := Try.underlying24
 have hu32 := Try.underlying32
 have HR0_10 := Aside0.mk hr0_10
 have HC0_10 := Aside0.mk hc0_10
 clear hr0_10 hc0_10
 have HR1_15 := Aside0.mk hr1_15
 have HC1_15 := Aside0.mk hc1_15
 clear hr1_15 hc1_15
 have HR1_16 := Aside0.mk hr1_16
 have HC1_16 := Aside0.mk hc1_16
 clear hr1_16 hc1_16
 have HR1_17 := Aside0.mk hr1_17
 have HC1_17 := Aside0.mk hc1_17
 clear hr1_17 hc1_17
 have HB := Aside0.mk (Below.refl w.heap.size w)
 have H : ((r03_Plain.f k a0_0 a0_1 a0_2 a0_3 a0_4 a0_5 a0_6 a0_7 a0_8 a0_9 l0_10).bind fun t404 => (if t404 = 0 then (if a3_3 < 1 then (r24_Check.j0 k a2 true a0_0 a0_1 a0_2 a0_3 a0_4 a0_5 a0_6 a0_7 a0_8 a0_9 l0_10 a1_0 a1_1 a1_2 a1_3 a1_4 a1_5 a1_6 a1_7 a1_8 a1_9 a1_10 a1_11 a1_12 a1_13 a1_14 l1_15 l1_16 l1_17 a1_18 a1_19 a1_20 a1_21 a1_22 a1_23 a3_0 a3_1 a3_2 a3_3 a3_4 a3_5) else (r24_Check.j0 k a2 (decide (a3_3 > (l0_10.length : Int))) a0_0 a0_1 a0_2 a0_3 a0_4 a0_5 a0_6 a0_7 a0_8 a0_9 l0_10 a1_0 a1_1 a1_2 a1_3 a1_4 a1_5 a1_6 a1_7 a1_8 a1_9 a1_10 a1_11 a1_12 a1_13 a1_14 l1_15 l1_16 l1_17 a1_18 a1_19 a1_20 a1_21 a1_22 a1_23 a3_0 a3_1 a3_2 a3_3 a3_4 a3_5)) else ((r03_Plain.f k a0_0 a0_1 a0_2 a0_3 a0_4 a0_5 a0_6 a0_7 a0_8 a0_9 l0_10).bind fun t405 => (some t405)))) = some r := h
 clear h
 replace H := Option.bind_eq_some_iff.mp H
 obtain ⟨t404, A50, H⟩ := H
 try dsimp only at H
 have A5 := Aside0.mk A50
 clear A50
 by_cases c6 : t404 = 0
 ·rw [if_pos c6] at H
  have c6b0 : (t404 == 0) = true := beq_iff_eq.mpr c6
  have c6b1 : (t404 != 0) = false := bne_eq_false_iff_eq.mpr c6
  clear c6
  have HC7 := Aside0.mk H
  clear H
  go_enter Try.func11, Try.ntmps11
  go_upto_region 3 with (first | ((with_reducible refine gate_load (t := 30) (x := .tmp 5) rfl ?_); refine load_row_g (cs := ?_) ?hw 30 (.tmp 5) ?h2 gb402 ?hx 30 (fr := (0, 0)) (d := ?_) ?hg ?h3 ?h4 ?hi ?_; (case hw => first | (with_reducible rfl) | (go_simp; done) | rfl); (case h2 => rfl); (case hx => first | (with_reducible rfl) | (go_simp; done) | rfl); (case hg => exact BK402.out); (case h3 => exact Try.underlying30); (case h4 => rfl); (case hi => kernel_rfl)) | ((with_reducible refine gate_dst (N := 4) rfl ?_); (try (refine gate_guard (by rfl) ?_; dsimp only)); refine box_event ?hg (N := 4) ?hd (cs := #[.int .i64 a0_0, .int .i64 a0_1, .int .i64 a0_2, .int .i64 a0_3, .int .i64 a0_4, .int .i64 a0_5, .int .i64 a0_6, .int .i64 a0_7, .int .i64 a0_8, .int .i64 a0_9, .slice A0_10 l0_10.length c0_10]) (t := 24) ?hr ?_; (case hd => rfl); (case hg => rfl); (case hr => first | (go_simp; done) | (go_simp; rfl)); intro gb401 hg w8 hbox hb; have BK401 := Aside0.mk (hbox); have GW401 := Aside0.mk ((by rw [hg]; exact (below_size HB.out) : w.heap.size ≤ gb401)); have GE401 := GW401; replace HB := Aside0.mk (below_step HB.out hb); clear hb hbox hg) | ((with_reducible refine gate_dst (N := 5) rfl ?_); (try (refine gate_guard (by rfl) ?_; dsimp only)); refine box_event ?hg (N := 5) ?hd (cs := #[.int .i64 a1_0, .int .i64 a1_1, .int .i64 a1_2, .string a1_3, .int .i64 a1_4, .string a1_5, .string a1_6, .int .i64 a1_7, .int .i64 a1_8, .string a1_9, .string a1_10, .string a1_11, .string a1_12, .string a1_13, .string a1_14, .slice A1_15 l1_15.length c1_15, .slice A1_16 l1_16.length c1_16, .slice A1_17 l1_17.length c1_17, .int .i64 a1_18, .int .i64 a1_19, .int .i64 a1_20, .int .i64 a1_21, .int .i64 a1_22, .int .i64 a1_23]) (t := 30) ?hr ?_; (case hd => rfl); (case hg => rfl); (case hr => first | (go_simp; done) | (go_simp; rfl)); intro gb402 hg w9 hbox hb; have BK402 := Aside0.mk (hbox); have GW402 := Aside0.mk ((by rw [hg]; exact (below_size HB.out) : w.heap.size ≤ gb402)); have GE402 := GW402; replace HB := Aside0.mk (below_step HB.out hb); have NB401_402 := Aside0.mk ((by rw [hg]; exact Nat.ne_of_lt (blk_lt BK401.out) : gb401 ≠ gb402)); have NB402_401 := Aside0.mk NB401_402.out.symm; replace BK401 := Aside0.mk (blk_below BK401.out hb); clear hb hbox hg) | ((with_reducible refine gate_dst (N := 7) rfl ?_); (try (refine gate_guard (by rfl) ?_; dsimp only)); refine box_event ?hg (N := 7) ?hd (cs := #[.string a3_0, .int .i64 a3_1, .string a3_2, .int .i64 a3_3, .int .i64 a3_4, .string a3_5]) (t := 32) ?hr ?_; (case hd => rfl); (case hg => rfl); (case hr => first | (go_simp; done) | (go_simp; rfl)); intro gb403 hg w10 hbox hb; have BK403 := Aside0.mk (hbox); have GW403 := Aside0.mk ((by rw [hg]; exact (below_size HB.out) : w.heap.size ≤ gb403)); have GE403 := GW403; replace HB := Aside0.mk (below_step HB.out hb); have NB401_403 := Aside0.mk ((by rw [hg]; exact Nat.ne_of_lt (blk_lt BK401.out) : gb401 ≠ gb403)); have NB403_401 := Aside0.mk NB401_403.out.symm; replace BK401 := Aside0.mk (blk_below BK401.out hb); have NB402_403 := Aside0.mk ((by rw [hg]; exact Nat.ne_of_lt (blk_lt BK402.out) : gb402 ≠ gb403)); have NB403_402 := Aside0.mk NB402_403.out.symm; replace BK402 := Aside0.mk (blk_below BK402.out hb); clear hb hbox hg; have hnb11 := NB401_402.out; have hnc11 := NB402_401.out; have hnb12 := NB401_403.out; have hnc12 := NB403_401.out; obtain ⟨hcz13_0, hcz13_1, hcz13_2, hcz13_3, hcz13_4, hcz13_5, hcz13_6, hcz13_7, hcz13_8, hcz13_9, hcz13_10⟩ := cells_11 BK401.out; obtain ⟨hfz13_0, hfz13_1, hfz13_2, hfz13_3, hfz13_4, hfz13_5, hfz13_6, hfz13_7, hfz13_8, hfz13_9, hfz13_10⟩ := frozen_11 BK401.out) | ((with_reducible refine gate_callee (f := 30) rfl ?_); refine goesL_ (some 13) rfl rfl Try.func30 (by kernel_rfl) rfl #[.agg #[.int .i64 a0_0, .int .i64 a0_1, .int .i64 a0_2, .int .i64 a0_3, .int .i64 a0_4, .int .i64 a0_5, .int .i64 a0_6, .int .i64 a0_7, .int .i64 a0_8, .int .i64 a0_9, .slice A0_10 l0_10.length c0_10]] rfl (by (try simp only [List.map_toArray, List.map_cons, List.map_nil]); first | done | rfl) ?_; (with_reducible refine (r03_Plain.calls k a0_0 a0_1 a0_2 a0_3 a0_4 a0_5 a0_6 a0_7 a0_8 a0_9 _ _ l0_10 t404 _ ?side1 ?side2 A5.out).mono ?_); (case side1 => exact (Kd.C_below HR0_10.out HB.out)); (case side2 => exact HC0_10.out); rintro e w14 ⟨rfl, hb⟩; refine ⟨_, rfl, ?_⟩; replace BK401 := Aside0.mk (blk_below BK401.out hb); replace BK402 := Aside0.mk (blk_below BK402.out hb); replace BK403 := Aside0.mk (blk_below BK403.out hb); replace HB := Aside0.mk (below_step HB.out hb); (try clear hb)))
  (try simp only [Act.put, List.setIfInBounds_toArray, List.set_cons_zero, List.set_cons_succ])
  go_cut [27] (fun v27 wc => ∃ (kq : Nat) (x27_6 : Bool), v27 = .bool x27_6 ∧ Aside0 (r24_Check.j0 kq a2 x27_6 a0_0 a0_1 a0_2 a0_3 a0_4 a0_5 a0_6 a0_7 a0_8 a0_9 l0_10 a1_0 a1_1 a1_2 a1_3 a1_4 a1_5 a1_6 a1_7 a1_8 a1_9 a1_10 a1_11 a1_12 a1_13 a1_14 l1_15 l1_16 l1_17 a1_18 a1_19 a1_20 a1_21 a1_22 a1_23 a3_0 a3_1 a3_2 a3_3 a3_4 a3_5 = some r) ∧ Aside0 (kq ≤ k) ∧ Aside0 (wc.heap[gb401]? = some (.cells #[.int .i64 a0_0, .int .i64 a0_1, .int .i64 a0_2, .int .i64 a0_3, .int .i64 a0_4, .int .i64 a0_5, .int .i64 a0_6, .int .i64 a0_7, .int .i64 a0_8, .int .i64 a0_9, (.slice A0_10 l0_10.length c0_10)] 24 (0, 0))) ∧ Aside0 (wc.heap[gb402]? = some (.cells #[.int .i64 a1_0, .int .i64 a1_1, .int .i64 a1_2, .string a1_3, .int .i64 a1_4, .string a1_5, .string a1_6, .int .i64 a1_7, .int .i64 a1_8, .string a1_9, .string a1_10, .string a1_11, .string a1_12, .string a1_13, .string a1_14, (.slice A1_15 l1_15.length c1_15), (.slice A1_16 l1_16.length c1_16), (.slice A1_17 l1_17.length c1_17), .int .i64 a1_18, .int .i64 a1_19, .int .i64 a1_20, .int .i64 a1_21, .int .i64 a1_22, .int .i64 a1_23] 30 (0, 0))) ∧ Aside0 (wc.heap[gb403]? = some (.cells #[.string a3_0, .int .i64 a3_1, .string a3_2, .int .i64 a3_3, .int .i64 a3_4, .string a3_5] 32 (0, 0))) ∧ Aside0 (Below w.heap.size w wc))
  case first =>
   have H := HC7.out
   clear HC7
   by_cases c15 : a3_3 < 1
   ·rw [if_pos c15] at H
    have c15b0 : decide (a3_3 < 1) = true := decide_eq_true c15
    clear c15
    (first | rw [c15b0] | (simp only [i64_w, i32_w]; rw [c15b0]) | skip)
    have H' := Aside0.mk H
    clear H
    have hnb16 := NB403_401.out
    have hnc16 := NB401_403.out
    have hnb17 := NB403_402.out
    have hnc17 := NB402_403.out
    obtain ⟨hcz18_0, hcz18_1, hcz18_2, hcz18_3, hcz18_4, hcz18_5⟩ := cells_6 BK403.out
    obtain ⟨hfz18_0, hfz18_1, hfz18_2, hfz18_3, hfz18_4, hfz18_5⟩ := frozen_6 BK403.out
    go_wp2
    go_meet
    case rel => exact ⟨_, (true), (by first | rfl | (simp; done) | (simp [*]; done)), H', ⟨by first | omega | exact Nat.le_refl _⟩, ⟨by (with_reducible repeat (first | refine blk_drewN ?_ _ | refine blk_drew ?_ | refine blk_alloc ?_ _)); exact BK401.out⟩, ⟨by (with_reducible repeat (first | refine blk_drewN ?_ _ | refine blk_drew ?_ | refine blk_alloc ?_ _)); exact BK402.out⟩, ⟨by (with_reducible repeat (first | refine blk_drewN ?_ _ | refine blk_drew ?_ | refine blk_alloc ?_ _)); exact BK403.out⟩, ⟨by repeat (first | (with_reducible first | exact HB.out | apply below_alloc | apply pw_below_drewN | apply below_drew1 | refine below_set ?_ GE401.out | refine below_set ?_ GE402.out | refine below_set ?_ GE403.out) | exact HB.out)⟩⟩
   ·rw [if_neg c15] at H
    have c15b0 : decide (a3_3 < 1) = false := decide_eq_false c15
    clear c15
    (first | rw [c15b0] | (simp only [i64_w, i32_w]; rw [c15b0]) | skip)
    have H' := Aside0.mk H
    clear H
    have hnb19 := NB403_401.out
    have hnc19 := NB401_403.out
    have hnb20 := NB403_402.out
    have hnc20 := NB402_403.out
    obtain ⟨hcz21_0, hcz21_1, hcz21_2, hcz21_3, hcz21_4, hcz21_5⟩ := cells_6 BK403.out
    obtain ⟨hfz21_0, hfz21_1, hfz21_2, hfz21_3, hfz21_4, hfz21_5⟩ := frozen_6 BK403.out
    have hnb22 := NB401_402.out
    have hnc22 := NB402_401.out
    have hcz23 := cells_11 BK401.out
    have hfz23 := frozen_11 BK401.out
    go_wp2
    go_meet
    case rel => exact ⟨_, (decide (a3_3 > (l0_10.length : Int))), (by first | rfl | (simp; done) | (simp [*]; done)), H', ⟨by first | omega | exact Nat.le_refl _⟩, ⟨by (with_reducible repeat (first | refine blk_drewN ?_ _ | refine blk_drew ?_ | refine blk_alloc ?_ _)); exact BK401.out⟩, ⟨by (with_reducible repeat (first | refine blk_drewN ?_ _ | refine blk_drew ?_ | refine blk_alloc ?_ _)); exact BK402.out⟩, ⟨by (with_reducible repeat (first | refine blk_drewN ?_ _ | refine blk_drew ?_ | refine blk_alloc ?_ _)); exact BK403.out⟩, ⟨by repeat (first | (with_reducible first | exact HB.out | apply below_alloc | apply pw_below_drewN | apply below_drew1 | refine below_set ?_ GE401.out | refine below_set ?_ GE402.out | refine below_set ?_ GE403.out) | exact HB.out)⟩⟩
  case rest =>
   clear HC7
   try clear c1
   try clear c2
   try clear p2
   try clear c3
   try clear c6
   try clear c6b0
   try clear c6b1
   try clear c11
   try clear c12
   try clear c15
   try clear c15b0
   try clear c16
   try clear c17
   try clear c19
   try clear c20
   try clear c22
   try clear hcz13_0
   try clear hcz13_1
   try clear hcz13_10
   try clear hcz13_2
   try clear hcz13_3
   try clear hcz13_4
   try clear hcz13_5
   try clear hcz13_6
   try clear hcz13_7
   try clear hcz13_8
   try clear hcz13_9
   try clear hcz18_0
   try clear hcz18_1
   try clear hcz18_2
   try clear hcz18_3
   try clear hcz18_4
   try clear hcz18_5
   try clear hcz21_0
   try clear hcz21_1
   try clear hcz21_2
   try clear hcz21_3
   try clear hcz21_4
   try clear hcz21_5
   try clear hcz23
   try clear hfz13_0
   try clear hfz13_1
   try clear hfz13_10
   try clear hfz13_2
   try clear hfz13_3
   try clear hfz13_4
   try clear hfz13_5
   try clear hfz13_6
   try clear hfz13_7
   try clear hfz13_8
   try clear hfz13_9
   try clear hfz18_0
   try clear hfz18_1
   try clear hfz18_2
   try clear hfz18_3
   try clear hfz18_4
   try clear hfz18_5
   try clear hfz21_0
   try clear hfz21_1
   try clear hfz21_2
   try clear hfz21_3
   try clear hfz21_4
   try clear hfz21_5
   try clear hfz23
   obtain ⟨kq, x27_6, rfl, HA, HJ6, BK401, BK402, BK403, HB⟩ := hcut
   cases kq with
   | zero => exact absurd HA.out (by simp [r24_Check.j0])
   | succ kj6 =>
    have H := HA.out
    clear HA
    simp only [r24_Check.j0] at H
    by_cases c24 : x27_6 = true
    ·subst c24
     have H1 : (some 11) = some r := by rw [if_pos rfl] at H; exact H
     clear H
     have H := H1
     clear H1
     obtain rfl := Option.some.inj H
     go_wp2
     go_ret
     exact ⟨by first | rfl | (simp [*] <;> rfl), by repeat (first | (with_reducible first | exact HB.out | apply below_alloc | apply pw_below_drewN | apply below_drew1 | refine below_set ?_ GE401.out | refine below_set ?_ GE402.out | refine below_set ?_ GE403.out) | exact HB.out)⟩
    ·replace c24 := Bool.eq_false_iff.mpr c24
     subst c24
     have H1 : ((r23_Sync.f a1_0 a1_1 a1_2 a1_3 a1_4 a1_5 a1_6 a1_7 a1_8 a1_9 a1_10 a1_11 a1_12 a1_13 a1_14 l1_15 l1_16 l1_17 a1_18 a1_19 a1_20 a1_21 a1_22 a1_23).bind fun t406 => (if t406 = true then ((r21_Owner.f kj6 a0_0 a0_1 a0_2 a0_3 a0_4 a0_5 a0_6 a0_7 a0_8 a0_9 l0_10 (wrap64 (a3_3 - 1))).bind fun t407 => (if t407 = a2 then ((r22_Window.f kj6 a0_0 a0_1 a0_2 a0_3 a0_4 a0_5 a0_6 a0_7 a0_8 a0_9 l0_10 (wrap64 (a3_3 - 1))).bind fun bt408 => ((r22_Elapsed.f a1_0 a1_1).bind fun t410 => (if t410 < bt408.1 then (r24_Check.j1 kj6 true a1_0 a1_1 a1_2 a1_3 a1_4 a1_5 a1_6 a1_7 a1_8 a1_9 a1_10 a1_11 a1_12 a1_13 a1_14 l1_15 l1_16 l1_17 a1_18 a1_19 a1_20 a1_21 a1_22 a1_23 a3_0 a3_1 a3_2 a3_3 a3_4 a3_5) else (r24_Check.j1 kj6 (decide (t410 > bt408.2)) a1_0 a1_1 a1_2 a1_3 a1_4 a1_5 a1_6 a1_7 a1_8 a1_9 a1_10 a1_11 a1_12 a1_13 a1_14 l1_15 l1_16 l1_17 a1_18 a1_19 a1_20 a1_21 a1_22 a1_23 a3_0 a3_1 a3_2 a3_3 a3_4 a3_5)))) else (some 12))) else (some 14))) = some r := by rw [if_neg (show ¬ (false = true) by decide)] at H; exact H
     clear H
     have H := H1
     clear H1
     replace H := Option.bind_eq_some_iff.mp H
     obtain ⟨t406, A250, H⟩ := H
     try dsimp only at H
     have A25 := Aside0.mk A250
     clear A250
     by_cases c26 : t406 = true
     ·subst c26
      have H1 : ((r21_Owner.f kj6 a0_0 a0_1 a0_2 a0_3 a0_4 a0_5 a0_6 a0_7 a0_8 a0_9 l0_10 (wrap64 (a3_3 - 1))).bind fun t407 => (if t407 = a2 then ((r22_Window.f kj6 a0_0 a0_1 a0_2 a0_3 a0_4 a0_5 a0_6 a0_7 a0_8 a0_9 l0_10 (wrap64 (a3_3 - 1))).bind fun bt408 => ((r22_Elapsed.f a1_0 a1_1).bind fun t410 => (if t410 < bt408.1 then (r24_Check.j1 kj6 true a1_0 a1_1 a1_2 a1_3 a1_4 a1_5 a1_6 a1_7 a1_8 a1_9 a1_10 a1_11 a1_12 a1_13 a1_14 l1_15 l1_16 l1_17 a1_18 a1_19 a1_20 a1_21 a1_22 a1_23 a3_0 a3_1 a3_2 a3_3 a3_4 a3_5) else (r24_Check.j1 kj6 (decide (t410 > bt408.2)) a1_0 a1_1 a1_2 a1_3 a1_4 a1_5 a1_6 a1_7 a1_8 a1_9 a1_10 a1_11 a1_12 a1_13 a1_14 l1_15 l1_16 l1_17 a1_18 a1_19 a1_20 a1_21 a1_22 a1_23 a3_0 a3_1 a3_2 a3_3 a3_4 a3_5)))) else (some 12))) = some r := by rw [if_pos rfl] at H; exact H
      clear H
      have H := H1
      clear H1
      replace H := Option.bind_eq_some_iff.mp H
      obtain ⟨t407, A270, H⟩ := H
      try dsimp only at H
      have A27 := Aside0.mk A270
      clear A270
      by_cases c28 : t407 = a2
      ·rw [if_pos c28] at H
       have c28b0 : (t407 == a2) = true := beq_iff_eq.mpr c28
       have c28b1 : (t407 != a2) = false := bne_eq_false_iff_eq.mpr c28
       clear c28
       replace H := Option.bind_eq_some_iff.mp H
       obtain ⟨⟨t408, t409⟩, A290, H⟩ := H
       try dsimp only at H
       have A29 := Aside0.mk A290
       clear A290
       replace H := Option.bind_eq_some_iff.mp H
       obtain ⟨t410, A300, H⟩ := H
       try dsimp only at H
       have A30 := Aside0.mk A300
       clear A300
       have HC31 := Aside0.mk H
       clear H
       have hnb32 := NB402_401.out
       have hnc32 := NB401_402.out
       have hnb33 := NB402_403.out
       have hnc33 := NB403_402.out
       have hcz34 := cells_24 BK402.out
       have hfz34 := frozen_24 BK402.out
       go_upto_region 11 with (first | ((with_reducible refine gate_load (t := 30) (x := .tmp 5) rfl ?_); refine load_row_g (cs := ?_) ?hw 30 (.tmp 5) ?h2 gb402 ?hx 30 (fr := (0, 0)) (d := ?_) ?hg ?h3 ?h4 ?hi ?_; (case hw => first | (with_reducible rfl) | (go_simp; done) | rfl); (case h2 => rfl); (case hx => first | (with_reducible rfl) | (go_simp; done) | rfl); (case hg => exact BK402.out); (case h3 => exact Try.underlying30); (case h4 => rfl); (case hi => kernel_rfl)) | ((with_reducible refine gate_callee (f := 21) rfl ?_); refine goesL_ (some 29) rfl rfl Try.func21 (by kernel_rfl) rfl #[.agg #[.int .i64 a1_0, .int .i64 a1_1, .int .i64 a1_2, .string a1_3, .int .i64 a1_4, .string a1_5, .string a1_6, .int .i64 a1_7, .int .i64 a1_8, .string a1_9, .string a1_10, .string a1_11, .string a1_12, .string a1_13, .string a1_14, .slice A1_15 l1_15.length c1_15, .slice A1_16 l1_16.length c1_16, .slice A1_17 l1_17.length c1_17, .int .i64 a1_18, .int .i64 a1_19, .int .i64 a1_20, .int .i64 a1_21, .int .i64 a1_22, .int .i64 a1_23]] rfl (by (try simp only [List.map_toArray, List.map_cons, List.map_nil]); first | done | rfl) ?_; (with_reducible refine (r23_Sync.calls a1_0 a1_1 a1_2 a1_3 a1_4 a1_5 a1_6 a1_7 a1_8 a1_9 a1_10 a1_11 a1_12 a1_13 a1_14 _ _ l1_15 _ _ l1_16 _ _ l1_17 a1_18 a1_19 a1_20 a1_21 a1_22 a1_23 true _ ?side1 ?side2 ?side3 ?side4 ?side5 ?side6 A25.out).mono ?_); (case side1 => exact (Kd.C_below HR1_15.out HB.out)); (case side2 => exact HC1_15.out); (case side3 => exact (Kd.C_below HR1_16.out HB.out)); (case side4 => exact HC1_16.out); (case side5 => exact (Kd.C_below HR1_17.out HB.out)); (case side6 => exact HC1_17.out); rintro e w35 ⟨rfl, hb⟩; refine ⟨_, rfl, ?_⟩; replace BK401 := Aside0.mk (blk_below BK401.out hb); replace BK402 := Aside0.mk (blk_below BK402.out hb); replace BK403 := Aside0.mk (blk_below BK403.out hb); replace HB := Aside0.mk (below_step HB.out hb); (try clear hb); have hnb36 := NB401_403.out; have hnc36 := NB403_401.out; obtain ⟨hcz37_0, hcz37_1, hcz37_2, hcz37_3, hcz37_4, hcz37_5, hcz37_6, hcz37_7, hcz37_8, hcz37_9, hcz37_10⟩ := cells_11 BK401.out; obtain ⟨hfz37_0, hfz37_1, hfz37_2, hfz37_3, hfz37_4, hfz37_5, hfz37_6, hfz37_7, hfz37_8, hfz37_9, hfz37_10⟩ := frozen_11 BK401.out; obtain ⟨hcz38_0, hcz38_1, hcz38_2, hcz38_3, hcz38_4, hcz38_5⟩ := cells_6 BK403.out; obtain ⟨hfz38_0, hfz38_1, hfz38_2, hfz38_3, hfz38_4, hfz38_5⟩ := frozen_6 BK403.out) | ((with_reducible refine gate_callee (f := 17) rfl ?_); refine goesL_ (some 35) rfl rfl Try.func17 (by kernel_rfl) rfl #[.agg #[.int .i64 a0_0, .int .i64 a0_1, .int .i64 a0_2, .int .i64 a0_3, .int .i64 a0_4, .int .i64 a0_5, .int .i64 a0_6, .int .i64 a0_7, .int .i64 a0_8, .int .i64 a0_9, .slice A0_10 l0_10.length c0_10], .int .i64 (wrap64 (a3_3 - 1))] rfl (by (try simp only [List.map_toArray, List.map_cons, List.map_nil]); first | done | rfl) ?_; (with_reducible refine (r21_Owner.calls kj6 a0_0 a0_1 a0_2 a0_3 a0_4 a0_5 a0_6 a0_7 a0_8 a0_9 _ _ l0_10 (wrap64 (a3_3 - 1)) t407 _ ?side1 ?side2 A27.out).mono ?_); (case side1 => exact (Kd.C_below HR0_10.out HB.out)); (case side2 => exact HC0_10.out); rintro e w39 ⟨rfl, hb⟩; refine ⟨_, rfl, ?_⟩; replace BK401 := Aside0.mk (blk_below BK401.out hb); replace BK402 := Aside0.mk (blk_below BK402.out hb); replace BK403 := Aside0.mk (blk_below BK403.out hb); replace HB := Aside0.mk (below_step HB.out hb); (try clear hb); obtain ⟨hcz40_0, hcz40_1, hcz40_2, hcz40_3, hcz40_4, hcz40_5, hcz40_6, hcz40_7, hcz40_8, hcz40_9, hcz40_10⟩ := cells_11 BK401.out; obtain ⟨hfz40_0, hfz40_1, hfz40_2, hfz40_3, hfz40_4, hfz40_5, hfz40_6, hfz40_7, hfz40_8, hfz40_9, hfz40_10⟩ := frozen_11 BK401.out; obtain ⟨hcz41_0, hcz41_1, hcz41_2, hcz41_3, hcz41_4, hcz41_5⟩ := cells_6 BK403.out; obtain ⟨hfz41_0, hfz41_1, hfz41_2, hfz41_3, hfz41_4, hfz41_5⟩ := frozen_6 BK403.out) | ((with_reducible refine gate_callee (f := 31) rfl ?_); refine goesL_ (some 43) rfl rfl Try.func31 (by kernel_rfl) rfl #[.agg #[.int .i64 a0_0, .int .i64 a0_1, .int .i64 a0_2, .int .i64 a0_3, .int .i64 a0_4, .int .i64 a0_5, .int .i64 a0_6, .int .i64 a0_7, .int .i64 a0_8, .int .i64 a0_9, .slice A0_10 l0_10.length c0_10], .int .i64 (wrap64 (a3_3 - 1))] rfl (by (try simp only [List.map_toArray, List.map_cons, List.map_nil]); first | done | rfl) ?_; (with_reducible refine (r22_Window.calls kj6 a0_0 a0_1 a0_2 a0_3 a0_4 a0_5 a0_6 a0_7 a0_8 a0_9 _ _ l0_10 (wrap64 (a3_3 - 1)) t408 t409 _ ?side1 ?side2 A29.out).mono ?_); (case side1 => exact (Kd.C_below HR0_10.out HB.out)); (case side2 => exact HC0_10.out); rintro e w42 ⟨rfl, hb⟩; refine ⟨_, rfl, ?_⟩; replace BK401 := Aside0.mk (blk_below BK401.out hb); replace BK402 := Aside0.mk (blk_below BK402.out hb); replace BK403 := Aside0.mk (blk_below BK403.out hb); replace HB := Aside0.mk (below_step HB.out hb); (try clear hb); have hall1_ := cells_24 BK402.out; have hall2_ := frozen_24 BK402.out) | ((with_reducible refine gate_callee (f := 32) rfl ?_); refine goesL_ (some 50) rfl rfl Try.func32 (by kernel_rfl) rfl #[.int .i64 a1_0, .int .i64 a1_1] rfl (by (try simp only [List.map_toArray, List.map_cons, List.map_nil]); first | done | rfl) ?_; (with_reducible refine (r22_Elapsed.calls a1_0 a1_1 t410 _ A30.out).mono ?_); rintro e w' ⟨rfl, ⟨nd, rfl⟩⟩; refine ⟨_, rfl, ?_⟩))
       (try simp only [Act.put, List.setIfInBounds_toArray, List.set_cons_zero, List.set_cons_succ])
       go_cut [58] (fun v58 wc => ∃ (kq : Nat) (x58_30 : Bool), v58 = .bool x58_30 ∧ Aside0 (r24_Check.j1 kq x58_30 a1_0 a1_1 a1_2 a1_3 a1_4 a1_5 a1_6 a1_7 a1_8 a1_9 a1_10 a1_11 a1_12 a1_13 a1_14 l1_15 l1_16 l1_17 a1_18 a1_19 a1_20 a1_21 a1_22 a1_23 a3_0 a3_1 a3_2 a3_3 a3_4 a3_5 = some r) ∧ Aside0 (kq ≤ kj6) ∧ Aside0 (wc.heap[gb401]? = some (.cells #[.int .i64 a0_0, .int .i64 a0_1, .int .i64 a0_2, .int .i64 a0_3, .int .i64 a0_4, .int .i64 a0_5, .int .i64 a0_6, .int .i64 a0_7, .int .i64 a0_8, .int .i64 a0_9, (.slice A0_10 l0_10.length c0_10)] 24 (0, 0))) ∧ Aside0 (wc.heap[gb402]? = some (.cells #[.int .i64 a1_0, .int .i64 a1_1, .int .i64 a1_2, .string a1_3, .int .i64 a1_4, .string a1_5, .string a1_6, .int .i64 a1_7, .int .i64 a1_8, .string a1_9, .string a1_10, .string a1_11, .string a1_12, .string a1_13, .string a1_14, (.slice A1_15 l1_15.length c1_15), (.slice A1_16 l1_16.length c1_16), (.slice A1_17 l1_17.length c1_17), .int .i64 a1_18, .int .i64 a1_19, .int .i64 a1_20, .int .i64 a1_21, .int .i64 a1_22, .int .i64 a1_23] 30 (0, 0))) ∧ Aside0 (wc.heap[gb403]? = some (.cells #[.string a3_0, .int .i64 a3_1, .string a3_2, .int .i64 a3_3, .int .i64 a3_4, .string a3_5] 32 (0, 0))) ∧ Aside0 (Below w.heap.size w wc))
       case first =>
        have H := HC31.out
        clear HC31
        by_cases c44 : t410 < t408
        ·rw [if_pos c44] at H
         have c44b0 : decide (t410 < t408) = true := decide_eq_true c44
         clear c44
         (first | rw [c44b0] | (simp only [i64_w, i32_w]; rw [c44b0]) | skip)
         have H' := Aside0.mk H
         clear H
         go_wp2
         go_meet
         case rel => exact ⟨_, (true), (by first | rfl | (simp; done) | (simp [*]; done)), H', ⟨by have := HJ6.out; first | omega | exact Nat.le_refl _⟩, ⟨by (with_reducible repeat (first | refine blk_drewN ?_ _ | refine blk_drew ?_ | refine blk_alloc ?_ _)); exact BK401.out⟩, ⟨by (with_reducible repeat (first | refine blk_drewN ?_ _ | refine blk_drew ?_ | refine blk_alloc ?_ _)); exact BK402.out⟩, ⟨by (with_reducible repeat (first | refine blk_drewN ?_ _ | refine blk_drew ?_ | refine blk_alloc ?_ _)); exact BK403.out⟩, ⟨by repeat (first | (with_reducible first | exact HB.out | apply below_alloc | apply pw_below_drewN | apply below_drew1 | refine below_set ?_ GE401.out | refine below_set ?_ GE402.out | refine below_set ?_ GE403.out) | exact HB.out)⟩⟩
        ·rw [if_neg c44] at H
         have c44b0 : decide (t410 < t408) = false := decide_eq_false c44
         clear c44
         (first | rw [c44b0] | (simp only [i64_w, i32_w]; rw [c44b0]) | skip)
         have H' := Aside0.mk H
         clear H
         go_wp2
         go_meet
         case rel => exact ⟨_, (decide (t410 > t409)), (by first | rfl | (simp; done) | (simp [*]; done)), H', ⟨by have := HJ6.out; first | omega | exact Nat.le_refl _⟩, ⟨by (with_reducible repeat (first | refine blk_drewN ?_ _ | refine blk_drew ?_ | refine blk_alloc ?_ _)); exact BK401.out⟩, ⟨by (with_reducible repeat (first | refine blk_drewN ?_ _ | refine blk_drew ?_ | refine blk_alloc ?_ _)); exact BK402.out⟩, ⟨by (with_reducible repeat (first | refine blk_drewN ?_ _ | refine blk_drew ?_ | refine blk_alloc ?_ _)); exact BK403.out⟩, ⟨by repeat (first | (with_reducible first | exact HB.out | apply below_alloc | apply pw_below_drewN | apply below_drew1 | refine below_set ?_ GE401.out | refine below_set ?_ GE402.out | refine below_set ?_ GE403.out) | exact HB.out)⟩⟩
       case rest =>
        clear HC31
        try clear c1
        try clear c2
        try clear p2
        try clear c3
        try clear c4
        try clear c6
        try clear c6b0
        try clear c6b1
        try clear p6
        try clear c11
        try clear c12
        try clear c15
        try clear c15b0
        try clear c16
        try clear c17
        try clear c19
        try clear c20
        try clear c21
        try clear c22
        try clear c24
        try clear c26
        try clear c28
        try clear c28b0
        try clear c28b1
        try clear c30
        try clear c31
        try clear c32
        try clear c33
        try clear c36
        try clear c44
        try clear c44b0
        try clear hcz13_0
        try clear hcz13_1
        try clear hcz13_10
        try clear hcz13_2
        try clear hcz13_3
        try clear hcz13_4
        try clear hcz13_5
        try clear hcz13_6
        try clear hcz13_7
        try clear hcz13_8
        try clear hcz13_9
        try clear hcz18_0
        try clear hcz18_1
        try clear hcz18_2
        try clear hcz18_3
        try clear hcz18_4
        try clear hcz18_5
        try clear hcz21_0
        try clear hcz21_1
        try clear hcz21_2
        try clear hcz21_3
        try clear hcz21_4
        try clear hcz21_5
        try clear hcz23
        try clear hcz34
        try clear hcz37_0
        try clear hcz37_1
        try clear hcz37_10
        try clear hcz37_2
        try clear hcz37_3
        try clear hcz37_4
        try clear hcz37_5
        try clear hcz37_6
        try clear hcz37_7
        try clear hcz37_8
        try clear hcz37_9
        try clear hcz38_0
        try clear hcz38_1
        try clear hcz38_2
        try clear hcz38_3
        try clear hcz38_4
        try clear hcz38_5
        try clear hcz40_0
        try clear hcz40_1
        try clear hcz40_10
        try clear hcz40_2
        try clear hcz40_3
        try clear hcz40_4
        try clear hcz40_5
        try clear hcz40_6
        try clear hcz40_7
        try clear hcz40_8
        try clear hcz40_9
        try clear hcz41_0
        try clear hcz41_1
        try clear hcz41_2
        try clear hcz41_3
        try clear hcz41_4
        try clear hcz41_5
        try clear hcz43_0
        try clear hcz43_1
        try clear hcz43_10
        try clear hcz43_11
        try clear hcz43_12
        try clear hcz43_13
        try clear hcz43_14
        try clear hcz43_15
        try clear hcz43_16
        try clear hcz43_17
        try clear hcz43_18
        try clear hcz43_19
        try clear hcz43_2
        try clear hcz43_20
        try clear hcz43_21
        try clear hcz43_22
        try clear hcz43_23
        try clear hcz43_3
        try clear hcz43_4
        try clear hcz43_5
        try clear hcz43_6
        try clear hcz43_7
        try clear hcz43_8
        try clear hcz43_9
        try clear hfz13_0
        try clear hfz13_1
        try clear hfz13_10
        try clear hfz13_2
        try clear hfz13_3
        try clear hfz13_4
        try clear hfz13_5
        try clear hfz13_6
        try clear hfz13_7
        try clear hfz13_8
        try clear hfz13_9
        try clear hfz18_0
        try clear hfz18_1
        try clear hfz18_2
        try clear hfz18_3
        try clear hfz18_4
        try clear hfz18_5
        try clear hfz21_0
        try clear hfz21_1
        try clear hfz21_2
        try clear hfz21_3
        try clear hfz21_4
        try clear hfz21_5
        try clear hfz23
        try clear hfz34
        try clear hfz37_0
        try clear hfz37_1
        try clear hfz37_10
        try clear hfz37_2
        try clear hfz37_3
        try clear hfz37_4
        try clear hfz37_5
        try clear hfz37_6
        try clear hfz37_7
        try clear hfz37_8
        try clear hfz37_9
        try clear hfz38_0
        try clear hfz38_1
        try clear hfz38_2
        try clear hfz38_3
        try clear hfz38_4
        try clear hfz38_5
        try clear hfz40_0
        try clear hfz40_1
        try clear hfz40_10
        try clear hfz40_2
        try clear hfz40_3
        try clear hfz40_4
        try clear hfz40_5
        try clear hfz40_6
        try clear hfz40_7
        try clear hfz40_8
        try clear hfz40_9
        try clear hfz41_0
        try clear hfz41_1
        try clear hfz41_2
        try clear hfz41_3
        try clear hfz41_4
        try clear hfz41_5
        try clear hfz43_0
        try clear hfz43_1
        try clear hfz43_10
        try clear hfz43_11
        try clear hfz43_12
        try clear hfz43_13
        try clear hfz43_14
        try clear hfz43_15
        try clear hfz43_16
        try clear hfz43_17
        try clear hfz43_18
        try clear hfz43_19
        try clear hfz43_2
        try clear hfz43_20
        try clear hfz43_21
        try clear hfz43_22
        try clear hfz43_23
        try clear hfz43_3
        try clear hfz43_4
        try clear hfz43_5
        try clear hfz43_6
        try clear hfz43_7
        try clear hfz43_8
        try clear hfz43_9
        try clear p2
        obtain ⟨kq, x58_30, rfl, HA, HJ30, BK401, BK402, BK403, HB⟩ := hcut
        cases kq with
        | zero => exact absurd HA.out (by simp [r24_Check.j1])
        | succ kj30 =>
         have H := HA.out
         clear HA
         simp only [r24_Check.j1] at H
         by_cases c45 : x58_30 = true
         ·subst c45
          have H1 : (some 10) = some r := by rw [if_pos rfl] at H; exact H
          clear H
          have H := H1
          clear H1
          obtain rfl := Option.some.inj H
          go_wp2
          go_ret
          exact ⟨by first | rfl | (simp [*] <;> rfl), by repeat (first | (with_reducible first | exact HB.out | apply below_alloc | apply pw_below_drewN | apply below_drew1 | refine below_set ?_ GE401.out | refine below_set ?_ GE402.out | refine below_set ?_ GE403.out) | exact HB.out)⟩
         ·replace c45 := Bool.eq_false_iff.mpr c45
          subst c45
          have H1 : (if a3_4 = a1_7 then (if (a3_5.size : Int) > 16 then (some 15) else ((r23_Has.f a1_11 (wrap64 (a3_3 - 1))).bind fun t411 => (if t411 = true then (some 13) else (some 0)))) else (some 16)) = some r := by rw [if_neg (show ¬ (false = true) by decide)] at H; exact H
          clear H
          have H := H1
          clear H1
          by_cases c46 : a3_4 = a1_7
          ·rw [if_pos c46] at H
           have c46b0 : (a3_4 == a1_7) = true := beq_iff_eq.mpr c46
           have c46b1 : (a3_4 != a1_7) = false := bne_eq_false_iff_eq.mpr c46
           clear c46
           by_cases c47 : (a3_5.size : Int) > 16
           ·rw [if_pos c47] at H
            have c47b0 : decide (16 < (a3_5.size : Int)) = true := decide_eq_true c47
            have c47b1 : decide (16 < a3_5.size) = true := decide_eq_true (by omega)
            clear c47
            obtain rfl := Option.some.inj H
            have hnb48 := NB403_401.out
            have hnc48 := NB401_403.out
            have hnb49 := NB403_402.out
            have hnc49 := NB402_403.out
            obtain ⟨hcz50_0, hcz50_1, hcz50_2, hcz50_3, hcz50_4, hcz50_5⟩ := cells_6 BK403.out
            obtain ⟨hfz50_0, hfz50_1, hfz50_2, hfz50_3, hfz50_4, hfz50_5⟩ := frozen_6 BK403.out
            have hnb51 := NB402_401.out
            have hnc51 := NB401_402.out
            have hcz52 := cells_24 BK402.out
            have hfz52 := frozen_24 BK402.out
            go_wp2
            go_ret
            exact ⟨by first | rfl | (simp [*] <;> rfl), by repeat (first | (with_reducible first | exact HB.out | apply below_alloc | apply pw_below_drewN | apply below_drew1 | refine below_set ?_ GE401.out | refine below_set ?_ GE402.out | refine below_set ?_ GE403.out) | exact HB.out)⟩
           ·rw [if_neg c47] at H
            have c47b0 : decide (16 < (a3_5.size : Int)) = false := decide_eq_false c47
            have c47b1 : decide (16 < a3_5.size) = false := decide_eq_false (by omega)
            clear c47
            replace H := Option.bind_eq_some_iff.mp H
            obtain ⟨t411, A530, H⟩ := H
            try dsimp only at H
            have A53 := Aside0.mk A530
            clear A530
            by_cases c54 : t411 = true
            ·subst c54
             have H1 : (some 13) = some r := by rw [if_pos rfl] at H; exact H
             clear H
             have H := H1
             clear H1
             obtain rfl := Option.some.inj H
             have hnb55 := NB403_401.out
             have hnc55 := NB401_403.out
             have hnb56 := NB403_402.out
             have hnc56 := NB402_403.out
             obtain ⟨hcz57_0, hcz57_1, hcz57_2, hcz57_3, hcz57_4, hcz57_5⟩ := cells_6 BK403.out
             obtain ⟨hfz57_0, hfz57_1, hfz57_2, hfz57_3, hfz57_4, hfz57_5⟩ := frozen_6 BK403.out
             have hnb58 := NB402_401.out
             have hnc58 := NB401_402.out
             have hcz59 := cells_24 BK402.out
             have hfz59 := frozen_24 BK402.out
             go_wp2_with (first | ((with_reducible refine gate_load (t := 30) (x := .tmp 5) rfl ?_); refine load_row_g (cs := ?_) ?hw 30 (.tmp 5) ?h2 gb402 ?hx 30 (fr := (0, 0)) (d := ?_) ?hg ?h3 ?h4 ?hi ?_; (case hw => first | (with_reducible rfl) | (go_simp; done) | rfl); (case h2 => rfl); (case hx => first | (with_reducible rfl) | (go_simp; done) | rfl); (case hg => exact BK402.out); (case h3 => exact Try.underlying30); (case h4 => rfl); (case hi => kernel_rfl)) | ((with_reducible refine gate_callee (f := 19) rfl ?_); refine goesL_ (some 73) rfl rfl Try.func19 (by kernel_rfl) rfl #[.string a1_11, .int .i64 (wrap64 (a3_3 - 1))] rfl (by (try simp only [List.map_toArray, List.map_cons, List.map_nil]); first | done | rfl) ?_; (with_reducible refine (r23_Has.calls a1_11 (wrap64 (a3_3 - 1)) true _ A53.out).mono ?_); rintro e w' ⟨rfl, ⟨nd, rfl⟩⟩; refine ⟨_, rfl, ?_⟩))
             go_ret
             exact ⟨by first | rfl | (simp [*] <;> rfl), by repeat (first | (with_reducible first | exact HB.out | apply below_alloc | apply pw_below_drewN | apply below_drew1 | refine below_set ?_ GE401.out | refine below_set ?_ GE402.out | refine below_set ?_ GE403.out) | exact HB.out)⟩
            ·replace c54 := Bool.eq_false_iff.mpr c54
             subst c54
             have H1 : (some 0) = some r := by rw [if_neg (show ¬ (false = true) by decide)] at H; exact H
             clear H
             have H := H1
             clear H1
             obtain rfl := Option.some.inj H
             have hnb60 := NB403_401.out
             have hnc60 := NB401_403.out
             have hnb61 := NB403_402.out
             have hnc61 := NB402_403.out
             obtain ⟨hcz62_0, hcz62_1, hcz62_2, hcz62_3, hcz62_4, hcz62_5⟩ := cells_6 BK403.out
             obtain ⟨hfz62_0, hfz62_1, hfz62_2, hfz62_3, hfz62_4, hfz62_5⟩ := frozen_6 BK403.out
             have hnb63 := NB402_401.out
             have hnc63 := NB401_402.out
             have hcz64 := cells_24 BK402.out
             have hfz64 := frozen_24 BK402.out
             go_wp2_with (first | ((with_reducible refine gate_load (t := 30) (x := .tmp 5) rfl ?_); refine load_row_g (cs := ?_) ?hw 30 (.tmp 5) ?h2 gb402 ?hx 30 (fr := (0, 0)) (d := ?_) ?hg ?h3 ?h4 ?hi ?_; (case hw => first | (with_reducible rfl) | (go_simp; done) | rfl); (case h2 => rfl); (case hx => first | (with_reducible rfl) | (go_simp; done) | rfl); (case hg => exact BK402.out); (case h3 => exact Try.underlying30); (case h4 => rfl); (case hi => kernel_rfl)) | ((with_reducible refine gate_callee (f := 19) rfl ?_); refine goesL_ (some 73) rfl rfl Try.func19 (by kernel_rfl) rfl #[.string a1_11, .int .i64 (wrap64 (a3_3 - 1))] rfl (by (try simp only [List.map_toArray, List.map_cons, List.map_nil]); first | done | rfl) ?_; (with_reducible refine (r23_Has.calls a1_11 (wrap64 (a3_3 - 1)) false _ A53.out).mono ?_); rintro e w' ⟨rfl, ⟨nd, rfl⟩⟩; refine ⟨_, rfl, ?_⟩))
             go_ret
             exact ⟨by first | rfl | (simp [*] <;> rfl), by repeat (first | (with_reducible first | exact HB.out | apply below_alloc | apply pw_below_drewN | apply below_drew1 | refine below_set ?_ GE401.out | refine below_set ?_ GE402.out | refine below_set ?_ GE403.out) | exact HB.out)⟩
          ·rw [if_neg c46] at H
           have c46b0 : (a3_4 == a1_7) = false := beq_eq_false_iff_ne.mpr c46
           have c46b1 : (a3_4 != a1_7) = true := bne_iff_ne.mpr c46
           obtain rfl := Option.some.inj H
           have hnb65 := NB403_401.out
           have hnc65 := NB401_403.out
           have hnb66 := NB403_402.out
           have hnc66 := NB402_403.out
           obtain ⟨hcz67_0, hcz67_1, hcz67_2, hcz67_3, hcz67_4, hcz67_5⟩ := cells_6 BK403.out
           obtain ⟨hfz67_0, hfz67_1, hfz67_2, hfz67_3, hfz67_4, hfz67_5⟩ := frozen_6 BK403.out
           have hnb68 := NB402_401.out
           have hnc68 := NB401_402.out
           have hcz69 := cells_24 BK402.out
           have hfz69 := frozen_24 BK402.out
           go_wp2
           go_ret
           exact ⟨by first | rfl | (simp [*] <;> rfl), by repeat (first | (with_reducible first | exact HB.out | apply below_alloc | apply pw_below_drewN | apply below_drew1 | refine below_set ?_ GE401.out | refine below_set ?_ GE402.out | refine below_set ?_ GE403.out) | exact HB.out)⟩
      ·rw [if_neg c28] at H
       have c28b0 : (t407 == a2) = false := beq_eq_false_iff_ne.mpr c28
       have c28b1 : (t407 != a2) = true := bne_iff_ne.mpr c28
       obtain rfl := Option.some.inj H
       have hnb70 := NB402_401.out
       have hnc70 := NB401_402.out
       have hnb71 := NB402_403.out
       have hnc71 := NB403_402.out
       have hcz72 := cells_24 BK402.out
       have hfz72 := frozen_24 BK402.out
       go_wp2_with (first | ((with_reducible refine gate_load (t := 30) (x := .tmp 5) rfl ?_); refine load_row_g (cs := ?_) ?hw 30 (.tmp 5) ?h2 gb402 ?hx 30 (fr := (0, 0)) (d := ?_) ?hg ?h3 ?h4 ?hi ?_; (case hw => first | (with_reducible rfl) | (go_simp; done) | rfl); (case h2 => rfl); (case hx => first | (with_reducible rfl) | (go_simp; done) | rfl); (case hg => exact BK402.out); (case h3 => exact Try.underlying30); (case h4 => rfl); (case hi => kernel_rfl)) | ((with_reducible refine gate_callee (f := 21) rfl ?_); refine goesL_ (some 29) rfl rfl Try.func21 (by kernel_rfl) rfl #[.agg #[.int .i64 a1_0, .int .i64 a1_1, .int .i64 a1_2, .string a1_3, .int .i64 a1_4, .string a1_5, .string a1_6, .int .i64 a1_7, .int .i64 a1_8, .string a1_9, .string a1_10, .string a1_11, .string a1_12, .string a1_13, .string a1_14, .slice A1_15 l1_15.length c1_15, .slice A1_16 l1_16.length c1_16, .slice A1_17 l1_17.length c1_17, .int .i64 a1_18, .int .i64 a1_19, .int .i64 a1_20, .int .i64 a1_21, .int .i64 a1_22, .int .i64 a1_23]] rfl (by (try simp only [List.map_toArray, List.map_cons, List.map_nil]); first | done | rfl) ?_; (with_reducible refine (r23_Sync.calls a1_0 a1_1 a1_2 a1_3 a1_4 a1_5 a1_6 a1_7 a1_8 a1_9 a1_10 a1_11 a1_12 a1_13 a1_14 _ _ l1_15 _ _ l1_16 _ _ l1_17 a1_18 a1_19 a1_20 a1_21 a1_22 a1_23 true _ ?side1 ?side2 ?side3 ?side4 ?side5 ?side6 A25.out).mono ?_); (case side1 => exact (Kd.C_below HR1_15.out HB.out)); (case side2 => exact HC1_15.out); (case side3 => exact (Kd.C_below HR1_16.out HB.out)); (case side4 => exact HC1_16.out); (case side5 => exact (Kd.C_below HR1_17.out HB.out)); (case side6 => exact HC1_17.out); rintro e w73 ⟨rfl, hb⟩; refine ⟨_, rfl, ?_⟩; replace BK401 := Aside0.mk (blk_below BK401.out hb); replace BK402 := Aside0.mk (blk_below BK402.out hb); replace BK403 := Aside0.mk (blk_below BK403.out hb); replace HB := Aside0.mk (below_step HB.out hb); (try clear hb); have hnb74 := NB401_403.out; have hnc74 := NB403_401.out; obtain ⟨hcz75_0, hcz75_1, hcz75_2, hcz75_3, hcz75_4, hcz75_5, hcz75_6, hcz75_7, hcz75_8, hcz75_9, hcz75_10⟩ := cells_11 BK401.out; obtain ⟨hfz75_0, hfz75_1, hfz75_2, hfz75_3, hfz75_4, hfz75_5, hfz75_6, hfz75_7, hfz75_8, hfz75_9, hfz75_10⟩ := frozen_11 BK401.out; obtain ⟨hcz76_0, hcz76_1, hcz76_2, hcz76_3, hcz76_4, hcz76_5⟩ := cells_6 BK403.out; obtain ⟨hfz76_0, hfz76_1, hfz76_2, hfz76_3, hfz76_4, hfz76_5⟩ := frozen_6 BK403.out) | ((with_reducible refine gate_callee (f := 17) rfl ?_); refine goesL_ (some 35) rfl rfl Try.func17 (by kernel_rfl) rfl #[.agg #[.int .i64 a0_0, .int .i64 a0_1, .int .i64 a0_2, .int .i64 a0_3, .int .i64 a0_4, .int .i64 a0_5, .int .i64 a0_6, .int .i64 a0_7, .int .i64 a0_8, .int .i64 a0_9, .slice A0_10 l0_10.length c0_10], .int .i64 (wrap64 (a3_3 - 1))] rfl (by (try simp only [List.map_toArray, List.map_cons, List.map_nil]); first | done | rfl) ?_; (with_reducible refine (r21_Owner.calls kj6 a0_0 a0_1 a0_2 a0_3 a0_4 a0_5 a0_6 a0_7 a0_8 a0_9 _ _ l0_10 (wrap64 (a3_3 - 1)) t407 _ ?side1 ?side2 A27.out).mono ?_); (case side1 => exact (Kd.C_below HR0_10.out HB.out)); (case side2 => exact HC0_10.out); rintro e w77 ⟨rfl, hb⟩; refine ⟨_, rfl, ?_⟩; replace BK401 := Aside0.mk (blk_below BK401.out hb); replace BK402 := Aside0.mk (blk_below BK402.out hb); replace BK403 := Aside0.mk (blk_below BK403.out hb); replace HB := Aside0.mk (below_step HB.out hb); (try clear hb)))
       go_ret
       exact ⟨by first | rfl | (simp [*] <;> rfl), by repeat (first | (with_reducible first | exact HB.out | apply below_alloc | apply pw_below_drewN | apply below_drew1 | refine below_set ?_ GE401.out | refine below_set ?_ GE402.out | refine below_set ?_ GE403.out) | exact HB.out)⟩
     ·replace c26 := Bool.eq_false_iff.mpr c26
      subst c26
      have H1 : (some 14) = some r := by rw [if_neg (show ¬ (false = true) by decide)] at H; exact H
      clear H
      have H := H1
      clear H1
      obtain rfl := Option.some.inj H
      have hnb78 := NB402_401.out
      have hnc78 := NB401_402.out
      have hnb79 := NB402_403.out
      have hnc79 := NB403_402.out
      have hcz80 := cells_24 BK402.out
      have hfz80 := frozen_24 BK402.out
      go_wp2_with (first | ((with_reducible refine gate_load (t := 30) (x := .tmp 5) rfl ?_); refine load_row_g (cs := ?_) ?hw 30 (.tmp 5) ?h2 gb402 ?hx 30 (fr := (0, 0)) (d := ?_) ?hg ?h3 ?h4 ?hi ?_; (case hw => first | (with_reducible rfl) | (go_simp; done) | rfl); (case h2 => rfl); (case hx => first | (with_reducible rfl) | (go_simp; done) | rfl); (case hg => exact BK402.out); (case h3 => exact Try.underlying30); (case h4 => rfl); (case hi => kernel_rfl)) | ((with_reducible refine gate_callee (f := 21) rfl ?_); refine goesL_ (some 29) rfl rfl Try.func21 (by kernel_rfl) rfl #[.agg #[.int .i64 a1_0, .int .i64 a1_1, .int .i64 a1_2, .string a1_3, .int .i64 a1_4, .string a1_5, .string a1_6, .int .i64 a1_7, .int .i64 a1_8, .string a1_9, .string a1_10, .string a1_11, .string a1_12, .string a1_13, .string a1_14, .slice A1_15 l1_15.length c1_15, .slice A1_16 l1_16.length c1_16, .slice A1_17 l1_17.length c1_17, .int .i64 a1_18, .int .i64 a1_19, .int .i64 a1_20, .int .i64 a1_21, .int .i64 a1_22, .int .i64 a1_23]] rfl (by (try simp only [List.map_toArray, List.map_cons, List.map_nil]); first | done | rfl) ?_; (with_reducible refine (r23_Sync.calls a1_0 a1_1 a1_2 a1_3 a1_4 a1_5 a1_6 a1_7 a1_8 a1_9 a1_10 a1_11 a1_12 a1_13 a1_14 _ _ l1_15 _ _ l1_16 _ _ l1_17 a1_18 a1_19 a1_20 a1_21 a1_22 a1_23 false _ ?side1 ?side2 ?side3 ?side4 ?side5 ?side6 A25.out).mono ?_); (case side1 => exact (Kd.C_below HR1_15.out HB.out)); (case side2 => exact HC1_15.out); (case side3 => exact (Kd.C_below HR1_16.out HB.out)); (case side4 => exact HC1_16.out); (case side5 => exact (Kd.C_below HR1_17.out HB.out)); (case side6 => exact HC1_17.out); rintro e w81 ⟨rfl, hb⟩; refine ⟨_, rfl, ?_⟩; replace BK401 := Aside0.mk (blk_below BK401.out hb); replace BK402 := Aside0.mk (blk_below BK402.out hb); replace BK403 := Aside0.mk (blk_below BK403.out hb); replace HB := Aside0.mk (below_step HB.out hb); (try clear hb)))
      go_ret
      exact ⟨by first | rfl | (simp [*] <;> rfl), by repeat (first | (with_reducible first | exact HB.out | apply below_alloc | apply pw_below_drewN | apply below_drew1 | refine below_set ?_ GE401.out | refine below_set ?_ GE402.out | refine below_set ?_ GE403.out) | exact HB.out)⟩
 ·rw [if_neg c6] at H
  have c6b0 : (t404 == 0) = false := beq_eq_false_iff_ne.mpr c6
  have c6b1 : (t404 != 0) = true := bne_iff_ne.mpr c6
  replace H := Option.bind_eq_some_iff.mp H
  obtain ⟨t405, A820, H⟩ := H
  replace H : (some t405) = some r := H
  have A82 := Aside0.mk A820
  clear A820
  obtain rfl := Option.some.inj H
  go_enter Try.func11, Try.ntmps11
  go_wp2_with (first | ((with_reducible refine gate_load (t := 30) (x := .tmp 5) rfl ?_); refine load_row_g (cs := ?_) ?hw 30 (.tmp 5) ?h2 gb402 ?hx 30 (fr := (0, 0)) (d := ?_) ?hg ?h3 ?h4 ?hi ?_; (case hw => first | (with_reducible rfl) | (go_simp; done) | rfl); (case h2 => rfl); (case hx => first | (with_reducible rfl) | (go_simp; done) | rfl); (case hg => exact BK402.out); (case h3 => exact Try.underlying30); (case h4 => rfl); (case hi => kernel_rfl)) | ((with_reducible refine gate_dst (N := 4) rfl ?_); (try (refine gate_guard (by rfl) ?_; dsimp only)); refine box_event ?hg (N := 4) ?hd (cs := #[.int .i64 a0_0, .int .i64 a0_1, .int .i64 a0_2, .int .i64 a0_3, .int .i64 a0_4, .int .i64 a0_5, .int .i64 a0_6, .int .i64 a0_7, .int .i64 a0_8, .int .i64 a0_9, .slice A0_10 l0_10.length c0_10]) (t := 24) ?hr ?_; (case hd => rfl); (case hg => rfl); (case hr => first | (go_simp; done) | (go_simp; rfl)); intro gb401 hg w83 hbox hb; have BK401 := Aside0.mk (hbox); have GW401 := Aside0.mk ((by rw [hg]; exact (below_size HB.out) : w.heap.size ≤ gb401)); have GE401 := GW401; replace HB := Aside0.mk (below_step HB.out hb); clear hb hbox hg) | ((with_reducible refine gate_dst (N := 5) rfl ?_); (try (refine gate_guard (by rfl) ?_; dsimp only)); refine box_event ?hg (N := 5) ?hd (cs := #[.int .i64 a1_0, .int .i64 a1_1, .int .i64 a1_2, .string a1_3, .int .i64 a1_4, .string a1_5, .string a1_6, .int .i64 a1_7, .int .i64 a1_8, .string a1_9, .string a1_10, .string a1_11, .string a1_12, .string a1_13, .string a1_14, .slice A1_15 l1_15.length c1_15, .slice A1_16 l1_16.length c1_16, .slice A1_17 l1_17.length c1_17, .int .i64 a1_18, .int .i64 a1_19, .int .i64 a1_20, .int .i64 a1_21, .int .i64 a1_22, .int .i64 a1_23]) (t := 30) ?hr ?_; (case hd => rfl); (case hg => rfl); (case hr => first | (go_simp; done) | (go_simp; rfl)); intro gb402 hg w84 hbox hb; have BK402 := Aside0.mk (hbox); have GW402 := Aside0.mk ((by rw [hg]; exact (below_size HB.out) : w.heap.size ≤ gb402)); have GE402 := GW402; replace HB := Aside0.mk (below_step HB.out hb); have NB401_402 := Aside0.mk ((by rw [hg]; exact Nat.ne_of_lt (blk_lt BK401.out) : gb401 ≠ gb402)); have NB402_401 := Aside0.mk NB401_402.out.symm; replace BK401 := Aside0.mk (blk_below BK401.out hb); clear hb hbox hg) | ((with_reducible refine gate_dst (N := 7) rfl ?_); (try (refine gate_guard (by rfl) ?_; dsimp only)); refine box_event ?hg (N := 7) ?hd (cs := #[.string a3_0, .int .i64 a3_1, .string a3_2, .int .i64 a3_3, .int .i64 a3_4, .string a3_5]) (t := 32) ?hr ?_; (case hd => rfl); (case hg => rfl); (case hr => first | (go_simp; done) | (go_simp; rfl)); intro gb403 hg w85 hbox hb; have BK403 := Aside0.mk (hbox); have GW403 := Aside0.mk ((by rw [hg]; exact (below_size HB.out) : w.heap.size ≤ gb403)); have GE403 := GW403; replace HB := Aside0.mk (below_step HB.out hb); have NB401_403 := Aside0.mk ((by rw [hg]; exact Nat.ne_of_lt (blk_lt BK401.out) : gb401 ≠ gb403)); have NB403_401 := Aside0.mk NB401_403.out.symm; replace BK401 := Aside0.mk (blk_below BK401.out hb); have NB402_403 := Aside0.mk ((by rw [hg]; exact Nat.ne_of_lt (blk_lt BK402.out) : gb402 ≠ gb403)); have NB403_402 := Aside0.mk NB402_403.out.symm; replace BK402 := Aside0.mk (blk_below BK402.out hb); clear hb hbox hg; have hnb86 := NB401_402.out; have hnc86 := NB402_401.out; have hnb87 := NB401_403.out; have hnc87 := NB403_401.out; obtain ⟨hcz88_0, hcz88_1, hcz88_2, hcz88_3, hcz88_4, hcz88_5, hcz88_6, hcz88_7, hcz88_8, hcz88_9, hcz88_10⟩ := cells_11 BK401.out; obtain ⟨hfz88_0, hfz88_1, hfz88_2, hfz88_3, hfz88_4, hfz88_5, hfz88_6, hfz88_7, hfz88_8, hfz88_9, hfz88_10⟩ := frozen_11 BK401.out) | ((with_reducible refine gate_callee (f := 30) rfl ?_); refine goesL_ (some 13) rfl rfl Try.func30 (by kernel_rfl) rfl #[.agg #[.int .i64 a0_0, .int .i64 a0_1, .int .i64 a0_2, .int .i64 a0_3, .int .i64 a0_4, .int .i64 a0_5, .int .i64 a0_6, .int .i64 a0_7, .int .i64 a0_8, .int .i64 a0_9, .slice A0_10 l0_10.length c0_10]] rfl (by (try simp only [List.map_toArray, List.map_cons, List.map_nil]); first | done | rfl) ?_; (with_reducible refine (r03_Plain.calls k a0_0 a0_1 a0_2 a0_3 a0_4 a0_5 a0_6 a0_7 a0_8 a0_9 _ _ l0_10 t404 _ ?side1 ?side2 A5.out).mono ?_); (case side1 => exact (Kd.C_below HR0_10.out HB.out)); (case side2 => exact HC0_10.out); rintro e w89 ⟨rfl, hb⟩; refine ⟨_, rfl, ?_⟩; replace BK401 := Aside0.mk (blk_below BK401.out hb); replace BK402 := Aside0.mk (blk_below BK402.out hb); replace BK403 := Aside0.mk (blk_below BK403.out hb); replace HB := Aside0.mk (below_step HB.out hb); (try clear hb); obtain ⟨hcz90_0, hcz90_1, hcz90_2, hcz90_3, hcz90_4, hcz90_5, hcz90_6, hcz90_7, hcz90_8, hcz90_9, hcz90_10⟩ := cells_11 BK401.out; obtain ⟨hfz90_0, hfz90_1, hfz90_2, hfz90_3, hfz90_4, hfz90_5, hfz90_6, hfz90_7, hfz90_8, hfz90_9, hfz90_10⟩ := frozen_11 BK401.out) | ((with_reducible refine gate_callee (f := 30) rfl ?_); refine goesL_ (some 16) rfl rfl Try.func30 (by kernel_rfl) rfl #[.agg #[.int .i64 a0_0, .int .i64 a0_1, .int .i64 a0_2, .int .i64 a0_3, .int .i64 a0_4, .int .i64 a0_5, .int .i64 a0_6, .int .i64 a0_7, .int .i64 a0_8, .int .i64 a0_9, .slice A0_10 l0_10.length c0_10]] rfl (by (try simp only [List.map_toArray, List.map_cons, List.map_nil]); first | done | rfl) ?_; (with_reducible refine (r03_Plain.calls k a0_0 a0_1 a0_2 a0_3 a0_4 a0_5 a0_6 a0_7 a0_8 a0_9 _ _ l0_10 t405 _ ?side1 ?side2 A82.out).mono ?_); (case side1 => exact (Kd.C_below HR0_10.out HB.out)); (case side2 => exact HC0_10.out); rintro e w91 ⟨rfl, hb⟩; refine ⟨_, rfl, ?_⟩; replace BK401 := Aside0.mk (blk_below BK401.out hb); replace BK402 := Aside0.mk (blk_below BK402.out hb); replace BK403 := Aside0.mk (blk_below BK403.out hb); replace HB := Aside0.mk (below_step HB.out hb); (try clear hb)))
  go_ret
  exact ⟨by first | rfl | (simp [*] <;> rfl), by repeat (first | (with_reducible first | exact HB.out | apply below_alloc | apply pw_below_drewN | apply below_drew1 | refine below_set ?_ GE401.out | refine below_set ?_ GE402.out | refine below_set ?_ GE403.out) | exact HB.out)⟩
end Go.Proofs.Ytebflimijebbnaa.Gn
