import Derived.Test.YthmnlopmocjpaaaZStatusTellsGn0
import Derived.Test.YthmnlopmocjpaaaZStatusTellsGn2
import Derived.Test.YthmnlopmocjpaaaZStatusTellsGn19
import Derived.Test.YthmnlopmocjpaaaZStatusTellsGn20
import Derived.Test.YthmnlopmocjpaaaZStatusTellsGn26
import Derived.Test.YthmnlopmocjpaaaZStatusTellsGn31
namespace Go.Proofs.Ythmnlopmocjpaaa.Gn
open Go.RowKit Go.Proofs.YthmnlopmocjpaaaW.PrintWords Go.Proofs.YthmnlopmocjpaaaW.PrintLast Go.Proofs.YthmnlopmocjpaaaW.PrintMore
attribute [local go_sem] max2_int min2_int max_two min_two max_three min_three max_four min_four   -- for this text's walks alone
set_option linter.unusedVariables false
set_option linter.unusedSimpArgs false
def r27_Report.f (k : Nat) (a0_0 a0_1 a0_2 a0_3 a0_4 a0_5 a0_6 a0_7 a0_8 a0_9 : Int) (l0_10 : List Int) (a1_0 a1_1 a1_2 : Int) (a1_3 : ByteArray) (a1_4 : Int) (a1_5 a1_6 : ByteArray) (a1_7 a1_8 : Int) (a1_9 a1_10 a1_11 a1_12 a1_13 a1_14 : ByteArray) (l1_15 : List (S96)) (l1_16 : List ByteArray) (l1_17 : List (S98)) (a1_18 a1_19 a1_20 a1_21 a1_22 a1_23 : Int) (a2 : Bool) (a3 : Int) (l4 : List (S50)) : Option (Bool × Bool × Int × Int × ByteArray × Int × (List (S50))) := (r03_Plain.f k a0_0 a0_1 a0_2 a0_3 a0_4 a0_5 a0_6 a0_7 a0_8 a0_9 l0_10).bind fun t404 => (if t404 = 0 then ((r23_Sync.f a1_0 a1_1 a1_2 a1_3 a1_4 a1_5 a1_6 a1_7 a1_8 a1_9 a1_10 a1_11 a1_12 a1_13 a1_14 l1_15 l1_16 l1_17 a1_18 a1_19 a1_20 a1_21 a1_22 a1_23).bind fun t405 => ((r27_Slot.f k a0_0 a0_1 a0_2 a0_3 a0_4 a0_5 a0_6 a0_7 a0_8 a0_9 l0_10 a1_0 a1_1 a1_2 a1_3 a1_4 a1_5 a1_6 a1_7 a1_8 a1_9 a1_10 a1_11 a1_12 a1_13 a1_14 l1_15 l1_16 l1_17 a1_18 a1_19 a1_20 a1_21 a1_22 a1_23).bind fun t406 => ((r25_Mark.f k a0_0 a0_1 a0_2 a0_3 a0_4 a0_5 a0_6 a0_7 a0_8 a0_9 l0_10 a1_9 ([] : List Int)).bind fun t407 => (some (a2, t405, a1_7, t406, t407, a3, l4))))) else (some (false, false, 0, (-1), (⟨#[]⟩ : ByteArray), 0, ([] : List (S50)))))
def r27_Report.T3 : Bool × List (List Nat × List Nat) := (true, [([], []), ([], []), ([1], [1]), ([], []), ([3], [3]), ([], []), ([], []), ([5, 6, 2], [5, 6]), ([], []), ([], []), ([9], [9]), ([8, 10, 7], [8, 10]), ([], []), ([], []), ([0, 2, 4, 7, 11, 12, 13], [0, 2, 4, 7, 11, 12, 13]), ([14, 11, 0, 1, 2, 3, 4, 5, 6, 7, 8, 9, 10, 11, 12, 13, 14], [14])])
def r27_Report.B3 : List Nat := [0, 0, 2, 0, 8, 0, 0, 102, 0, 0, 512, 2022, 0, 0, 16383, 32767]
theorem r27_Report.tab3 : rtab .any (opsOf Try.f13 3) = r27_Report.T3 := by kernel_rfl
theorem r27_Report.bits3 : waitsOk r27_Report.T3.2 r27_Report.B3 = true := by kernel_rfl
set_option maxHeartbeats 8000000 in
set_option maxRecDepth 100000 in
theorem r27_Report.callsU (k : Nat) (a0_0 a0_1 a0_2 a0_3 a0_4 a0_5 a0_6 a0_7 a0_8 a0_9 : Int) (A0_10 : Option Addr) (c0_10 : Nat) (l0_10 : List Int) (a1_0 a1_1 a1_2 : Int) (a1_3 : ByteArray) (a1_4 : Int) (a1_5 a1_6 : ByteArray) (a1_7 a1_8 : Int) (a1_9 a1_10 a1_11 a1_12 a1_13 a1_14 : ByteArray) (A1_15 : Option Addr) (c1_15 : Nat) (l1_15 : List (S96)) (A1_16 : Option Addr) (c1_16 : Nat) (l1_16 : List ByteArray) (A1_17 : Option Addr) (c1_17 : Nat) (l1_17 : List (S98)) (a1_18 a1_19 a1_20 a1_21 a1_22 a1_23 : Int) (a2 : Bool) (a3 : Int) (P4_ : Nat → Prop) (u9000_ : Value) (l4 : List (S50)) (r1 r2 : Bool) (r3 r4 : Int) (r5 : ByteArray) (r6 : Int) (r7 : List (S50)) (w0 w : World) (hB : Below w0.heap.size w0 w) (hr0_10 : ∀ W_, Kept w W_ (fun k_ => P4_ k_) → Kd.C (Kd.int .i64) W_ A0_10 l0_10.length l0_10) (hc0_10 : l0_10.length ≤ c0_10) (hr1_15 : ∀ W_, Kept w W_ (fun k_ => P4_ k_) → Kd.C k96 W_ A1_15 l1_15.length l1_15) (hc1_15 : l1_15.length ≤ c1_15) (hr1_16 : ∀ W_, Kept w W_ (fun k_ => P4_ k_) → Kd.C Kd.string W_ A1_16 l1_16.length l1_16) (hc1_16 : l1_16.length ≤ c1_16) (hr1_17 : ∀ W_, Kept w W_ (fun k_ => P4_ k_) → Kd.C k98 W_ A1_17 l1_17.length l1_17) (hc1_17 : l1_17.length ≤ c1_17) (ho4 : ∃ A c, u9000_ = .slice A l4.length c) (h : r27_Report.f k a0_0 a0_1 a0_2 a0_3 a0_4 a0_5 a0_6 a0_7 a0_8 a0_9 l0_10 a1_0 a1_1 a1_2 a1_3 a1_4 a1_5 a1_6 a1_7 a1_8 a1_9 a1_10 a1_11 a1_12 a1_13 a1_14 l1_15 l1_16 l1_17 a1_18 a1_19 a1_20 a1_21 a1_22 a1_23 a2 a3 l4 = some (r1, r2, r3, r4, r5, r6, r7)) :
  Calls Try.prog 13 #[.agg #[.int .i64 a0_0, .int .i64 a0_1, .int .i64 a0_2, .int .i64 a0_3, .int .i64 a0_4, .int .i64 a0_5, .int .i64 a0_6, .int .i64 a0_7, .int .i64 a0_8, .int .i64 a0_9, .slice A0_10 l0_10.length c0_10], .agg #[.int .i64 a1_0, .int .i64 a1_1, .int .i64 a1_2, .string a1_3, .int .i64 a1_4, .string a1_5, .string a1_6, .int .i64 a1_7, .int .i64 a1_8, .string a1_9, .string a1_10, .string a1_11, .string a1_12, .string a1_13, .string a1_14, .slice A1_15 l1_15.length c1_15, .slice A1_16 l1_16.length c1_16, .slice A1_17 l1_17.length c1_17, .int .i64 a1_18, .int .i64 a1_19, .int .i64 a1_20, .int .i64 a1_21, .int .i64 a1_22, .int .i64 a1_23], .bool a2, .int .i64 a3, u9000_] w fun e w' => ∃ v6_ : Value, e = .returned (.agg #[.bool r1, .bool r2, .int .i64 r3, .int .i64 r4, .string r5, .int .i64 r6, v6_]) ∧ ((v6_ = u9000_ ∧ r7 = l4) ∨ (v6_ = .slice none 0 0 ∧ r7 = [])) ∧ Below w0.heap.size w0 w' ∧ Kept w w' (fun k_ => P4_ k_) := by
 have hu24 := Try.underlying24
 have hu37 := Try.underlying37
 have HR0_10 := Aside0.mk hr0_10
 have HC0_10 := Aside0.mk hc0_10
 clear hr0_10 hc0_10
 have HR1_15 := Aside0.mk hr1_15
 have HC1_15 := Aside0.mk hc1_15
 clear hr1_15 hc1_15
 have HR1_16 := Aside0.mk hr1_16
 have HC1_16 := Aside0.mk hc1_16
 clear hr1_16 hc1_16
 have HR1_17 := Aside0.mk hr1_17
 have HC1_17 := Aside0.mk hc1_17
 clear hr1_17 hc1_17
 have HO4 := Aside0.mk ho4
 have HK := Aside0.mk (Kept.refl w (fun k_ => P4_ k_))
 have HW0 := Aside0.mk hB.size
 have HB := Aside0.mk hB
 clear hB
 have H : ((r03_Plain.f k a0_0 a0_1 a0_2 a0_3 a0_4 a0_5 a0_6 a0_7 a0_8 a0_9 l0_10).bind fun t404 => (if t404 = 0 then ((r23_Sync.f a1_0 a1_1 a1_2 a1_3 a1_4 a1_5 a1_6 a1_7 a1_8 a1_9 a1_10 a1_11 a1_12 a1_13 a1_14 l1_15 l1_16 l1_17 a1_18 a1_19 a1_20 a1_21 a1_22 a1_23).bind fun t405 => ((r27_Slot.f k a0_0 a0_1 a0_2 a0_3 a0_4 a0_5 a0_6 a0_7 a0_8 a0_9 l0_10 a1_0 a1_1 a1_2 a1_3 a1_4 a1_5 a1_6 a1_7 a1_8 a1_9 a1_10 a1_11 a1_12 a1_13 a1_14 l1_15 l1_16 l1_17 a1_18 a1_19 a1_20 a1_21 a1_22 a1_23).bind fun t406 => ((r25_Mark.f k a0_0 a0_1 a0_2 a0_3 a0_4 a0_5 a0_6 a0_7 a0_8 a0_9 l0_10 a1_9 ([] : List Int)).bind fun t407 => (some (a2, t405, a1_7, t406, t407, a3, l4))))) else (some (false, false, 0, (-1), (⟨#[]⟩ : ByteArray), 0, ([] : List (S50)))))) = some (r1, r2, r3, r4, r5, r6, r7) := h
 clear h
 replace H := Option.bind_eq_some_iff.mp H
 obtain ⟨t404, A60, H⟩ := H
 try dsimp only at H
 have A6 := Aside0.mk A60
 clear A60
 by_cases c7 : t404 = 0
 ·rw [if_pos c7] at H
  have c7b0 : (t404 == 0) = true := beq_iff_eq.mpr c7
  have c7b1 : (t404 != 0) = false := bne_eq_false_iff_eq.mpr c7
  clear c7
  replace H := Option.bind_eq_some_iff.mp H
  obtain ⟨t405, A80, H⟩ := H
  try dsimp only at H
  have A8 := Aside0.mk A80
  clear A80
  replace H := Option.bind_eq_some_iff.mp H
  obtain ⟨t406, A90, H⟩ := H
  try dsimp only at H
  have A9 := Aside0.mk A90
  clear A90
  replace H := Option.bind_eq_some_iff.mp H
  obtain ⟨t407, A100, H⟩ := H
  try dsimp only at H
  have A10 := Aside0.mk A100
  clear A100
  simp only [Option.some.injEq, Prod.mk.injEq] at H
  obtain ⟨rfl, rfl, rfl, rfl, rfl, rfl, rfl⟩ := H
  go_enter Try.func13, Try.ntmps13
  try go_wp2_with (first | ((with_reducible refine gate_load (t := 30) (x := .tmp 6) rfl ?_); refine load_row_g (cs := ?_) ?hw 30 (.tmp 6) ?h2 gb402 ?hx 30 (fr := (0, 0)) (d := ?_) ?hg ?h3 ?h4 ?hi ?_; (case hw => first | (with_reducible rfl) | (go_simp; done) | rfl); (case h2 => rfl); (case hx => first | (with_reducible rfl) | (go_simp; done) | rfl); (case hg => (with_reducible repeat (first | refine blk_drewN ?_ _ | refine blk_drew ?_ | refine blk_alloc ?_ _)); with_reducible exact BK402.out); (case h3 => exact Try.underlying30); (case h4 => rfl); (case hi => kernel_rfl)) | ((with_reducible refine gate_dst (N := 5) rfl ?_); refine box_event ?hg (N := 5) ?hd (cs := #[.int .i64 a0_0, .int .i64 a0_1, .int .i64 a0_2, .int .i64 a0_3, .int .i64 a0_4, .int .i64 a0_5, .int .i64 a0_6, .int .i64 a0_7, .int .i64 a0_8, .int .i64 a0_9, .slice A0_10 l0_10.length c0_10]) (t := 24) ?hr ?_; (case hd => rfl); (case hg => rfl); (case hr => first | (go_simp; done) | (go_simp; rfl)); intro gb401 hg w11 hbox hb; replace HO4 := HO4; have BK401 := Aside0.mk (hbox); have GW401 := Aside0.mk ((by rw [hg]; exact (by first | exact HK.out.1 | exact (show Kept w _ (fun k_ => P4_ k_) from by repeat (first | (with_reducible first | exact HK.out | apply Kept.alloc | apply Kept.drewN | apply Kept.drew) | exact HK.out)).1) : w.heap.size ≤ gb401)); replace HK := Aside0.mk (Kept.below (S := (fun k_ => P4_ k_)) (by repeat (first | (with_reducible first | exact HK.out | apply Kept.alloc | apply Kept.drewN | apply Kept.drew) | exact HK.out)) hb); have GE401 := Aside0.mk ((by rw [hg]; exact (below_size HB.out) : w0.heap.size ≤ gb401)); replace HB := Aside0.mk (below_step HB.out hb); clear hb hbox hg) | ((with_reducible refine gate_dst (N := 6) rfl ?_); refine box_event ?hg (N := 6) ?hd (cs := #[.int .i64 a1_0, .int .i64 a1_1, .int .i64 a1_2, .string a1_3, .int .i64 a1_4, .string a1_5, .string a1_6, .int .i64 a1_7, .int .i64 a1_8, .string a1_9, .string a1_10, .string a1_11, .string a1_12, .string a1_13, .string a1_14, .slice A1_15 l1_15.length c1_15, .slice A1_16 l1_16.length c1_16, .slice A1_17 l1_17.length c1_17, .int .i64 a1_18, .int .i64 a1_19, .int .i64 a1_20, .int .i64 a1_21, .int .i64 a1_22, .int .i64 a1_23]) (t := 30) ?hr ?_; (case hd => rfl); (case hg => rfl); (case hr => first | (go_simp; done) | (go_simp; rfl)); intro gb402 hg w12 hbox hb; replace HO4 := HO4; have BK402 := Aside0.mk (hbox); have GW402 := Aside0.mk ((by rw [hg]; exact (by first | exact HK.out.1 | exact (show Kept w _ (fun k_ => P4_ k_) from by repeat (first | (with_reducible first | exact HK.out | apply Kept.alloc | apply Kept.drewN | apply Kept.drew | refine Kept.setCell ?_ (.inr GW401.out) _) | exact HK.out)).1) : w.heap.size ≤ gb402)); replace HK := Aside0.mk (Kept.below (S := (fun k_ => P4_ k_)) (by repeat (first | (with_reducible first | exact HK.out | apply Kept.alloc | apply Kept.drewN | apply Kept.drew | refine Kept.setCell ?_ (.inr GW401.out) _) | exact HK.out)) hb); have GE402 := Aside0.mk ((by rw [hg]; exact (below_size HB.out) : w0.heap.size ≤ gb402)); replace HB := Aside0.mk (below_step HB.out hb); have NB401_402 := Aside0.mk ((by rw [hg]; exact Nat.ne_of_lt (blk_lt BK401.out) : gb401 ≠ gb402)); have NB402_401 := Aside0.mk NB401_402.out.symm; replace BK401 := Aside0.mk (blk_below BK401.out hb); clear hb hbox hg) | ((with_reducible refine gate_dst (N := 10) rfl ?_); refine box_event ?hg (N := 10) ?hd (cs := #[.bool false, .bool false, .int .i64 0, .int .i64 0, .string (⟨#[]⟩ : ByteArray), .int .i64 0, .slice none 0 0]) (t := 37) ?hr ?_; (case hd => rfl); (case hg => rfl); (case hr => first | (go_simp; done) | (go_simp; rfl)); intro gb403 hg w13 hbox hb; replace HO4 := HO4; have BK403 := Aside0.mk (hbox); have GW403 := Aside0.mk ((by rw [hg]; exact (by first | exact HK.out.1 | exact (show Kept w _ (fun k_ => P4_ k_) from by repeat (first | (with_reducible first | exact HK.out | apply Kept.alloc | apply Kept.drewN | apply Kept.drew | refine Kept.setCell ?_ (.inr GW401.out) _ | refine Kept.setCell ?_ (.inr GW402.out) _) | exact HK.out)).1) : w.heap.size ≤ gb403)); replace HK := Aside0.mk (Kept.below (S := (fun k_ => P4_ k_)) (by repeat (first | (with_reducible first | exact HK.out | apply Kept.alloc | apply Kept.drewN | apply Kept.drew | refine Kept.setCell ?_ (.inr GW401.out) _ | refine Kept.setCell ?_ (.inr GW402.out) _) | exact HK.out)) hb); have GE403 := Aside0.mk ((by rw [hg]; exact (below_size HB.out) : w0.heap.size ≤ gb403)); replace HB := Aside0.mk (below_step HB.out hb); have NB401_403 := Aside0.mk ((by rw [hg]; exact Nat.ne_of_lt (blk_lt BK401.out) : gb401 ≠ gb403)); have NB403_401 := Aside0.mk NB401_403.out.symm; replace BK401 := Aside0.mk (blk_below BK401.out hb); have NB402_403 := Aside0.mk ((by rw [hg]; exact Nat.ne_of_lt (blk_lt BK402.out) : gb402 ≠ gb403)); have NB403_402 := Aside0.mk NB402_403.out.symm; replace BK402 := Aside0.mk (blk_below BK402.out hb); clear hb hbox hg; have hnb14 := NB401_402.out; have hnc14 := NB402_401.out; have hnb15 := NB401_403.out; have hnc15 := NB403_401.out; obtain ⟨hcz16_0, hcz16_1, hcz16_2, hcz16_3, hcz16_4, hcz16_5, hcz16_6, hcz16_7, hcz16_8, hcz16_9, hcz16_10⟩ := cells_11 BK401.out; obtain ⟨hfz16_0, hfz16_1, hfz16_2, hfz16_3, hfz16_4, hfz16_5, hfz16_6, hfz16_7, hfz16_8, hfz16_9, hfz16_10⟩ := frozen_11 BK401.out) | ((with_reducible refine gate_callee (f := 22) rfl ?_); refine goesL_ (some 12) rfl rfl Try.func22 (by kernel_rfl) rfl #[.agg #[.int .i64 a0_0, .int .i64 a0_1, .int .i64 a0_2, .int .i64 a0_3, .int .i64 a0_4, .int .i64 a0_5, .int .i64 a0_6, .int .i64 a0_7, .int .i64 a0_8, .int .i64 a0_9, .slice A0_10 l0_10.length c0_10]] rfl (by (try simp only [List.map_toArray, List.map_cons, List.map_nil]); first | done | rfl) ?_; (with_reducible refine (r03_Plain.calls k a0_0 a0_1 a0_2 a0_3 a0_4 a0_5 a0_6 a0_7 a0_8 a0_9 _ _ l0_10 t404 _ ?side1 ?side2 A6.out).mono ?_); (case side1 => exact Kd.C_kept_now HR0_10.out (by repeat (first | (with_reducible first | exact HK.out | apply Kept.alloc | apply Kept.drewN | apply Kept.drew | refine Kept.setCell ?_ (.inr GW401.out) _ | refine Kept.setCell ?_ (.inr GW402.out) _ | refine Kept.setCell ?_ (.inr GW403.out) _) | exact HK.out))); (case side2 => exact HC0_10.out); rintro e w17 ⟨rfl, hb⟩; refine ⟨_, rfl, ?_⟩; replace HO4 := HO4; replace BK401 := Aside0.mk (blk_below BK401.out hb); replace BK402 := Aside0.mk (blk_below BK402.out hb); replace BK403 := Aside0.mk (blk_below BK403.out hb); replace HK := Aside0.mk (Kept.below (S := (fun k_ => P4_ k_)) (by repeat (first | (with_reducible first | exact HK.out | apply Kept.alloc | apply Kept.drewN | apply Kept.drew | refine Kept.setCell ?_ (.inr GW401.out) _ | refine Kept.setCell ?_ (.inr GW402.out) _ | refine Kept.setCell ?_ (.inr GW403.out) _) | exact HK.out)) hb); replace HB := Aside0.mk (below_step HB.out hb); (try clear hb)))
  replace HO4 := HO4
  replace BK401 := Aside0.mk (blk_drew BK401.out)
  replace BK402 := Aside0.mk (blk_drew BK402.out)
  replace BK403 := Aside0.mk (blk_drew BK403.out)
  replace HK := Aside0.mk (Kept.drew HK.out)
  replace HB := Aside0.mk (below_drew1 HB.out)
  refine start_ (n := 16) (S := fun w' => w'.cell? ⟨gb402, 0, none⟩ = some (.int .i64 a1_0) ∧ w'.cell? ⟨gb402, 1, none⟩ = some (.int .i64 a1_1) ∧ w'.cell? ⟨gb402, 2, none⟩ = some (.int .i64 a1_2) ∧ w'.cell? ⟨gb402, 3, none⟩ = some (.string a1_3) ∧ w'.cell? ⟨gb402, 4, none⟩ = some (.int .i64 a1_4) ∧ w'.cell? ⟨gb402, 5, none⟩ = some (.string a1_5) ∧ w'.cell? ⟨gb402, 6, none⟩ = some (.string a1_6) ∧ w'.cell? ⟨gb402, 7, none⟩ = some (.int .i64 a1_7) ∧ w'.cell? ⟨gb402, 8, none⟩ = some (.int .i64 a1_8) ∧ w'.cell? ⟨gb402, 9, none⟩ = some (.string a1_9) ∧ w'.cell? ⟨gb402, 10, none⟩ = some (.string a1_10) ∧ w'.cell? ⟨gb402, 11, none⟩ = some (.string a1_11) ∧ w'.cell? ⟨gb402, 12, none⟩ = some (.string a1_12) ∧ w'.cell? ⟨gb402, 13, none⟩ = some (.string a1_13) ∧ w'.cell? ⟨gb402, 14, none⟩ = some (.string a1_14) ∧ w'.cell? ⟨gb402, 15, none⟩ = some (.slice A1_15 l1_15.length c1_15) ∧ w'.cell? ⟨gb402, 16, none⟩ = some (.slice A1_16 l1_16.length c1_16) ∧ w'.cell? ⟨gb402, 17, none⟩ = some (.slice A1_17 l1_17.length c1_17) ∧ w'.cell? ⟨gb402, 18, none⟩ = some (.int .i64 a1_18) ∧ w'.cell? ⟨gb402, 19, none⟩ = some (.int .i64 a1_19) ∧ w'.cell? ⟨gb402, 20, none⟩ = some (.int .i64 a1_20) ∧ w'.cell? ⟨gb402, 21, none⟩ = some (.int .i64 a1_21) ∧ w'.cell? ⟨gb402, 22, none⟩ = some (.int .i64 a1_22) ∧ w'.cell? ⟨gb402, 23, none⟩ = some (.int .i64 a1_23) ∧ w'.cell? ⟨gb401, 0, none⟩ = some (.int .i64 a0_0) ∧ w'.cell? ⟨gb401, 1, none⟩ = some (.int .i64 a0_1) ∧ w'.cell? ⟨gb401, 2, none⟩ = some (.int .i64 a0_2) ∧ w'.cell? ⟨gb401, 3, none⟩ = some (.int .i64 a0_3) ∧ w'.cell? ⟨gb401, 4, none⟩ = some (.int .i64 a0_4) ∧ w'.cell? ⟨gb401, 5, none⟩ = some (.int .i64 a0_5) ∧ w'.cell? ⟨gb401, 6, none⟩ = some (.int .i64 a0_6) ∧ w'.cell? ⟨gb401, 7, none⟩ = some (.int .i64 a0_7) ∧ w'.cell? ⟨gb401, 8, none⟩ = some (.int .i64 a0_8) ∧ w'.cell? ⟨gb401, 9, none⟩ = some (.int .i64 a0_9) ∧ w'.cell? ⟨gb401, 10, none⟩ = some (.slice A0_10 l0_10.length c0_10)) (ds := []) #[false, false, false, false, false, false, false, false, false, false, false, false, false, false, false, false] (by kernel_rfl) rfl rfl ⟨(blk_cell BK402.out 0).trans rfl, (blk_cell BK402.out 1).trans rfl, (blk_cell BK402.out 2).trans rfl, (blk_cell BK402.out 3).trans rfl, (blk_cell BK402.out 4).trans rfl, (blk_cell BK402.out 5).trans rfl, (blk_cell BK402.out 6).trans rfl, (blk_cell BK402.out 7).trans rfl, (blk_cell BK402.out 8).trans rfl, (blk_cell BK402.out 9).trans rfl, (blk_cell BK402.out 10).trans rfl, (blk_cell BK402.out 11).trans rfl, (blk_cell BK402.out 12).trans rfl, (blk_cell BK402.out 13).trans rfl, (blk_cell BK402.out 14).trans rfl, (blk_cell BK402.out 15).trans rfl, (blk_cell BK402.out 16).trans rfl, (blk_cell BK402.out 17).trans rfl, (blk_cell BK402.out 18).trans rfl, (blk_cell BK402.out 19).trans rfl, (blk_cell BK402.out 20).trans rfl, (blk_cell BK402.out 21).trans rfl, (blk_cell BK402.out 22).trans rfl, (blk_cell BK402.out 23).trans rfl, (blk_cell BK401.out 0).trans rfl, (blk_cell BK401.out 1).trans rfl, (blk_cell BK401.out 2).trans rfl, (blk_cell BK401.out 3).trans rfl, (blk_cell BK401.out 4).trans rfl, (blk_cell BK401.out 5).trans rfl, (blk_cell BK401.out 6).trans rfl, (blk_cell BK401.out 7).trans rfl, (blk_cell BK401.out 8).trans rfl, (blk_cell BK401.out 9).trans rfl, (blk_cell BK401.out 10).trans rfl⟩ (fun hHeld => ?_); refine with_tabW r27_Report.tab3 r27_Report.bits3 (fun HT_ HW_ => ?_)
  generalize w17.drew = w18 at HO4 BK401 BK402 BK403 HK HB hHeld ⊢
  refine pure_ (i := 0) (N := some 15) (v := ?_) (a' := ?_) #[true, false, false, false, false, false, false, false, false, false, false, false, false, false, false, false] rfl rfl (any_of HT_.out (by kernel_rfl)) (fun _ _ _ h => h) (Or.inl ⟨by rfl, ?_⟩) ?_ ?_
  rotate_left
  ·intro w'
   go_simp
   with_reducible rfl
  rotate_left
  ·simp only [Act.put, List.setIfInBounds_toArray, List.set_cons_zero, List.set_cons_succ, i64_w, i32_w]
   rfl
  refine pure_ (i := 3) (N := some 18) (v := ?_) (a' := ?_) #[true, false, false, true, false, false, false, false, false, false, false, false, false, false, false, false] rfl rfl (any_of HT_.out (by kernel_rfl)) (fun _ _ _ h => h) (Or.inl ⟨by rfl, ?_⟩) ?_ ?_
  rotate_left
  ·intro w'
   go_simp
   with_reducible rfl
  rotate_left
  ·simp only [Act.put, List.setIfInBounds_toArray, List.set_cons_zero, List.set_cons_succ, i64_w, i32_w]
   rfl
  refine pure_ (i := 9) (N := some 24) (v := ?_) (a' := ?_) #[true, false, false, true, false, false, false, false, false, true, false, false, false, false, false, false] rfl rfl (any_of HT_.out (by kernel_rfl)) (fun _ _ _ h => h) (Or.inl ⟨by rfl, ?_⟩) ?_ ?_
  rotate_left
  ·intro w'
   go_simp
   with_reducible rfl
  rotate_left
  ·simp only [Act.put, List.setIfInBounds_toArray, List.set_cons_zero, List.set_cons_succ, i64_w, i32_w]
   rfl
  refine pure_ (i := 12) (N := some 27) (v := ?_) (a' := ?_) #[true, false, false, true, false, false, false, false, false, true, false, false, true, false, false, false] rfl rfl (any_of HT_.out (by kernel_rfl)) (fun _ _ _ h => h) (Or.inl ⟨by rfl, ?_⟩) ?_ ?_
  rotate_left
  ·intro w'
   go_simp
   with_reducible rfl
  rotate_left
  ·simp only [Act.put, List.setIfInBounds_toArray, List.set_cons_zero, List.set_cons_succ, i64_w, i32_w]
   rfl
  refine pure_ (i := 13) (N := some 28) (v := ?_) (a' := ?_) #[true, false, false, true, false, false, false, false, false, true, false, false, true, true, false, false] rfl rfl (any_of HT_.out (by kernel_rfl)) (fun _ _ _ h => h) (Or.inl ⟨by rfl, ?_⟩) ?_ ?_
  rotate_left
  ·intro w'
   go_simp
   with_reducible rfl
  rotate_left
  ·simp only [Act.put, List.setIfInBounds_toArray, List.set_cons_zero, List.set_cons_succ, i64_w, i32_w]
   rfl
  refine take_ (i := 1) (N := some 16) (v := ?_) (a' := ?_) #[true, true, false, true, false, false, false, false, false, true, false, false, true, true, false, false] rfl rfl (take_ofW HT_.out HW_.out (by kernel_rfl)) (fun _ _ _ h => h) (Or.inl ⟨by rfl, ?_⟩) hHeld ?_ ?_
  rotate_left
  ·rintro w' ⟨s0, s1, s2, s3, s4, s5, s6, s7, s8, s9, s10, s11, s12, s13, s14, s15, s16, s17, s18, s19, s20, s21, s22, s23, s24, s25, s26, s27, s28, s29, s30, s31, s32, s33, s34⟩
   (first | (refine load_cells_24 (ty := 30) (x := .tmp 6) (g := gb402) ?hlo_ ?hx_ Try.underlying30 ?hd_ ?hi_ s0 s1 s2 s3 s4 s5 s6 s7 s8 s9 s10 s11 s12 s13 s14 s15 s16 s17 s18 s19 s20 s21 s22 s23; (case hlo_ => rfl); (case hx_ => rfl); (case hd_ => rfl); (case hi_ => kernel_rfl)) | (go_simp; with_reducible rfl))
  rotate_left
  ·simp only [Act.put, List.setIfInBounds_toArray, List.set_cons_zero, List.set_cons_succ, i64_w, i32_w]
   rfl
  refine take_ (i := 4) (N := some 19) (v := ?_) (a' := ?_) #[true, true, false, true, true, false, false, false, false, true, false, false, true, true, false, false] rfl rfl (take_ofW HT_.out HW_.out (by kernel_rfl)) (fun _ _ _ h => h) (Or.inl ⟨by rfl, ?_⟩) hHeld ?_ ?_
  rotate_left
  ·rintro w' ⟨s0, s1, s2, s3, s4, s5, s6, s7, s8, s9, s10, s11, s12, s13, s14, s15, s16, s17, s18, s19, s20, s21, s22, s23, s24, s25, s26, s27, s28, s29, s30, s31, s32, s33, s34⟩
   (first | (refine load_cells_24 (ty := 30) (x := .tmp 6) (g := gb402) ?hlo_ ?hx_ Try.underlying30 ?hd_ ?hi_ s0 s1 s2 s3 s4 s5 s6 s7 s8 s9 s10 s11 s12 s13 s14 s15 s16 s17 s18 s19 s20 s21 s22 s23; (case hlo_ => rfl); (case hx_ => rfl); (case hd_ => rfl); (case hi_ => kernel_rfl)) | (go_simp; with_reducible rfl))
  rotate_left
  ·simp only [Act.put, List.setIfInBounds_toArray, List.set_cons_zero, List.set_cons_succ, i64_w, i32_w]
   rfl
  refine take_ (i := 5) (N := some 20) (v := ?_) (a' := ?_) #[true, true, false, true, true, true, false, false, false, true, false, false, true, true, false, false] rfl rfl (take_ofW HT_.out HW_.out (by kernel_rfl)) (fun _ _ _ h => h) (Or.inl ⟨by rfl, ?_⟩) hHeld ?_ ?_
  rotate_left
  ·rintro w' ⟨s0, s1, s2, s3, s4, s5, s6, s7, s8, s9, s10, s11, s12, s13, s14, s15, s16, s17, s18, s19, s20, s21, s22, s23, s24, s25, s26, s27, s28, s29, s30, s31, s32, s33, s34⟩
   (first | (refine load_cells_24 (ty := 30) (x := .tmp 6) (g := gb402) ?hlo_ ?hx_ Try.underlying30 ?hd_ ?hi_ s0 s1 s2 s3 s4 s5 s6 s7 s8 s9 s10 s11 s12 s13 s14 s15 s16 s17 s18 s19 s20 s21 s22 s23; (case hlo_ => rfl); (case hx_ => rfl); (case hd_ => rfl); (case hi_ => kernel_rfl)) | (go_simp; with_reducible rfl))
  rotate_left
  ·simp only [Act.put, List.setIfInBounds_toArray, List.set_cons_zero, List.set_cons_succ, i64_w, i32_w]
   rfl
  refine take_ (i := 6) (N := some 21) (v := ?_) (a' := ?_) #[true, true, false, true, true, true, true, false, false, true, false, false, true, true, false, false] rfl rfl (take_ofW HT_.out HW_.out (by kernel_rfl)) (fun _ _ _ h => h) (Or.inl ⟨by rfl, ?_⟩) hHeld ?_ ?_
  rotate_left
  ·rintro w' ⟨s0, s1, s2, s3, s4, s5, s6, s7, s8, s9, s10, s11, s12, s13, s14, s15, s16, s17, s18, s19, s20, s21, s22, s23, s24, s25, s26, s27, s28, s29, s30, s31, s32, s33, s34⟩
   (first | (refine load_cells_24 (ty := 30) (x := .tmp 6) (g := gb402) ?hlo_ ?hx_ Try.underlying30 ?hd_ ?hi_ s0 s1 s2 s3 s4 s5 s6 s7 s8 s9 s10 s11 s12 s13 s14 s15 s16 s17 s18 s19 s20 s21 s22 s23; (case hlo_ => rfl); (case hx_ => rfl); (case hd_ => rfl); (case hi_ => kernel_rfl)) | (go_simp; with_reducible rfl))
  rotate_left
  ·simp only [Act.put, List.setIfInBounds_toArray, List.set_cons_zero, List.set_cons_succ, i64_w, i32_w]
   rfl
  refine take_ (i := 8) (N := some 23) (v := ?_) (a' := ?_) #[true, true, false, true, true, true, true, false, true, true, false, false, true, true, false, false] rfl rfl (take_ofW HT_.out HW_.out (by kernel_rfl)) (fun _ _ _ h => h) (Or.inl ⟨by rfl, ?_⟩) hHeld ?_ ?_
  rotate_left
  ·rintro w' ⟨s0, s1, s2, s3, s4, s5, s6, s7, s8, s9, s10, s11, s12, s13, s14, s15, s16, s17, s18, s19, s20, s21, s22, s23, s24, s25, s26, s27, s28, s29, s30, s31, s32, s33, s34⟩
   (first | (refine load_cells_24 (ty := 30) (x := .tmp 6) (g := gb402) ?hlo_ ?hx_ Try.underlying30 ?hd_ ?hi_ s0 s1 s2 s3 s4 s5 s6 s7 s8 s9 s10 s11 s12 s13 s14 s15 s16 s17 s18 s19 s20 s21 s22 s23; (case hlo_ => rfl); (case hx_ => rfl); (case hd_ => rfl); (case hi_ => kernel_rfl)) | (go_simp; with_reducible rfl))
  rotate_left
  ·simp only [Act.put, List.setIfInBounds_toArray, List.set_cons_zero, List.set_cons_succ, i64_w, i32_w]
   rfl
  refine take_ (i := 10) (N := some 25) (v := ?_) (a' := ?_) #[true, true, false, true, true, true, true, false, true, true, true, false, true, true, false, false] rfl rfl (take_ofW HT_.out HW_.out (by kernel_rfl)) (fun _ _ _ h => h) (Or.inl ⟨by rfl, ?_⟩) hHeld ?_ ?_
  rotate_left
  ·rintro w' ⟨s0, s1, s2, s3, s4, s5, s6, s7, s8, s9, s10, s11, s12, s13, s14, s15, s16, s17, s18, s19, s20, s21, s22, s23, s24, s25, s26, s27, s28, s29, s30, s31, s32, s33, s34⟩
   (first | (refine load_cells_24 (ty := 30) (x := .tmp 6) (g := gb402) ?hlo_ ?hx_ Try.underlying30 ?hd_ ?hi_ s0 s1 s2 s3 s4 s5 s6 s7 s8 s9 s10 s11 s12 s13 s14 s15 s16 s17 s18 s19 s20 s21 s22 s23; (case hlo_ => rfl); (case hx_ => rfl); (case hd_ => rfl); (case hi_ => kernel_rfl)) | (go_simp; with_reducible rfl))
  rotate_left
  ·simp only [Act.put, List.setIfInBounds_toArray, List.set_cons_zero, List.set_cons_succ, i64_w, i32_w]
   rfl
  refine one_ (i := 2) (N := some 17) #[true, true, true, true, true, true, true, false, true, true, true, false, true, true, false, false] rfl rfl (one_of HT_.out (by kernel_rfl)) (by decide) (fun K hK => ?_)
  refine goes_ Try.func23 (by kernel_rfl) rfl #[.agg #[.int .i64 a1_0, .int .i64 a1_1, .int .i64 a1_2, .string a1_3, .int .i64 a1_4, .string a1_5, .string a1_6, .int .i64 a1_7, .int .i64 a1_8, .string a1_9, .string a1_10, .string a1_11, .string a1_12, .string a1_13, .string a1_14, .slice A1_15 l1_15.length c1_15, .slice A1_16 l1_16.length c1_16, .slice A1_17 l1_17.length c1_17, .int .i64 a1_18, .int .i64 a1_19, .int .i64 a1_20, .int .i64 a1_21, .int .i64 a1_22, .int .i64 a1_23]] (by rfl) rfl rfl (by (try simp only [List.map_toArray, List.map_cons, List.map_nil]); first | done | rfl) ?_
  with_reducible refine (r23_Sync.calls a1_0 a1_1 a1_2 a1_3 a1_4 a1_5 a1_6 a1_7 a1_8 a1_9 a1_10 a1_11 a1_12 a1_13 a1_14 _ _ l1_15 _ _ l1_16 _ _ l1_17 a1_18 a1_19 a1_20 a1_21 a1_22 a1_23 t405 _ ?side1 ?side2 ?side3 ?side4 ?side5 ?side6 A8.out).mono ?_
  (case side1 => exact Kd.C_kept_now HR1_15.out (by repeat (first | (with_reducible first | exact HK.out | apply Kept.alloc | apply Kept.drewN | apply Kept.drew | refine Kept.setCell ?_ (.inr GW401.out) _ | refine Kept.setCell ?_ (.inr GW402.out) _ | refine Kept.setCell ?_ (.inr GW403.out) _) | exact HK.out)))
  (case side2 => exact HC1_15.out)
  (case side3 => exact Kd.C_kept_now HR1_16.out (by repeat (first | (with_reducible first | exact HK.out | apply Kept.alloc | apply Kept.drewN | apply Kept.drew | refine Kept.setCell ?_ (.inr GW401.out) _ | refine Kept.setCell ?_ (.inr GW402.out) _ | refine Kept.setCell ?_ (.inr GW403.out) _) | exact HK.out)))
  (case side4 => exact HC1_16.out)
  (case side5 => exact Kd.C_kept_now HR1_17.out (by repeat (first | (with_reducible first | exact HK.out | apply Kept.alloc | apply Kept.drewN | apply Kept.drew | refine Kept.setCell ?_ (.inr GW401.out) _ | refine Kept.setCell ?_ (.inr GW402.out) _ | refine Kept.setCell ?_ (.inr GW403.out) _) | exact HK.out)))
  (case side6 => exact HC1_17.out)
  rintro e w19 ⟨rfl, hb⟩
  refine ⟨_, rfl, ?_⟩
  replace HO4 := HO4
  replace BK401 := Aside0.mk (blk_below BK401.out hb)
  replace BK402 := Aside0.mk (blk_below BK402.out hb)
  replace BK403 := Aside0.mk (blk_below BK403.out hb)
  replace HK := Aside0.mk (Kept.below (S := (fun k_ => P4_ k_)) (by repeat (first | (with_reducible first | exact HK.out | apply Kept.alloc | apply Kept.drewN | apply Kept.drew | refine Kept.setCell ?_ (.inr GW401.out) _ | refine Kept.setCell ?_ (.inr GW402.out) _ | refine Kept.setCell ?_ (.inr GW403.out) _) | exact HK.out)) hb)
  replace HB := Aside0.mk (below_step HB.out hb)
  (try clear hb)
  (try clear hb2)
  (try clear hk)
  (try clear hi)
  refine hK.out _ _ (and_24 BK402.out (cells_11 BK401.out)) (fun hHeld => ?_)
  clear hK K
  refine norm_ (a' := ?_) ?_ ?_
  rotate_left
  ·show Act.put _ (some 17) _ = _
   simp only [Act.put, List.setIfInBounds_toArray, List.set_cons_zero, List.set_cons_succ, i64_w, i32_w]
   rfl
  refine one_ (i := 7) (N := some 22) #[true, true, true, true, true, true, true, true, true, true, true, false, true, true, false, false] rfl rfl (one_of HT_.out (by kernel_rfl)) (by decide) (fun K hK => ?_)
  refine goes_ Try.func8 (by kernel_rfl) rfl #[.agg #[.int .i64 a0_0, .int .i64 a0_1, .int .i64 a0_2, .int .i64 a0_3, .int .i64 a0_4, .int .i64 a0_5, .int .i64 a0_6, .int .i64 a0_7, .int .i64 a0_8, .int .i64 a0_9, .slice A0_10 l0_10.length c0_10], .agg #[.int .i64 a1_0, .int .i64 a1_1, .int .i64 a1_2, .string a1_3, .int .i64 a1_4, .string a1_5, .string a1_6, .int .i64 a1_7, .int .i64 a1_8, .string a1_9, .string a1_10, .string a1_11, .string a1_12, .string a1_13, .string a1_14, .slice A1_15 l1_15.length c1_15, .slice A1_16 l1_16.length c1_16, .slice A1_17 l1_17.length c1_17, .int .i64 a1_18, .int .i64 a1_19, .int .i64 a1_20, .int .i64 a1_21, .int .i64 a1_22, .int .i64 a1_23]] (by rfl) rfl rfl (by (try simp only [List.map_toArray, List.map_cons, List.map_nil]); first | done | rfl) ?_
  with_reducible refine (r27_Slot.calls k a0_0 a0_1 a0_2 a0_3 a0_4 a0_5 a0_6 a0_7 a0_8 a0_9 _ _ l0_10 a1_0 a1_1 a1_2 a1_3 a1_4 a1_5 a1_6 a1_7 a1_8 a1_9 a1_10 a1_11 a1_12 a1_13 a1_14 _ _ l1_15 _ _ l1_16 _ _ l1_17 a1_18 a1_19 a1_20 a1_21 a1_22 a1_23 t406 _ ?side1 ?side2 ?side3 ?side4 ?side5 ?side6 ?side7 ?side8 A9.out).mono ?_
  (case side1 => exact Kd.C_kept_now HR0_10.out (by repeat (first | (with_reducible first | exact HK.out | apply Kept.alloc | apply Kept.drewN | apply Kept.drew | refine Kept.setCell ?_ (.inr GW401.out) _ | refine Kept.setCell ?_ (.inr GW402.out) _ | refine Kept.setCell ?_ (.inr GW403.out) _) | exact HK.out)))
  (case side2 => exact HC0_10.out)
  (case side3 => exact Kd.C_kept_now HR1_15.out (by repeat (first | (with_reducible first | exact HK.out | apply Kept.alloc | apply Kept.drewN | apply Kept.drew | refine Kept.setCell ?_ (.inr GW401.out) _ | refine Kept.setCell ?_ (.inr GW402.out) _ | refine Kept.setCell ?_ (.inr GW403.out) _) | exact HK.out)))
  (case side4 => exact HC1_15.out)
  (case side5 => exact Kd.C_kept_now HR1_16.out (by repeat (first | (with_reducible first | exact HK.out | apply Kept.alloc | apply Kept.drewN | apply Kept.drew | refine Kept.setCell ?_ (.inr GW401.out) _ | refine Kept.setCell ?_ (.inr GW402.out) _ | refine Kept.setCell ?_ (.inr GW403.out) _) | exact HK.out)))
  (case side6 => exact HC1_16.out)
  (case side7 => exact Kd.C_kept_now HR1_17.out (by repeat (first | (with_reducible first | exact HK.out | apply Kept.alloc | apply Kept.drewN | apply Kept.drew | refine Kept.setCell ?_ (.inr GW401.out) _ | refine Kept.setCell ?_ (.inr GW402.out) _ | refine Kept.setCell ?_ (.inr GW403.out) _) | exact HK.out)))
  (case side8 => exact HC1_17.out)
  rintro e w20 ⟨rfl, hb⟩
  refine ⟨_, rfl, ?_⟩
  replace HO4 := HO4
  replace BK401 := Aside0.mk (blk_below BK401.out hb)
  replace BK402 := Aside0.mk (blk_below BK402.out hb)
  replace BK403 := Aside0.mk (blk_below BK403.out hb)
  replace HK := Aside0.mk (Kept.below (S := (fun k_ => P4_ k_)) (by repeat (first | (with_reducible first | exact HK.out | apply Kept.alloc | apply Kept.drewN | apply Kept.drew | refine Kept.setCell ?_ (.inr GW401.out) _ | refine Kept.setCell ?_ (.inr GW402.out) _ | refine Kept.setCell ?_ (.inr GW403.out) _) | exact HK.out)) hb)
  replace HB := Aside0.mk (below_step HB.out hb)
  (try clear hb)
  (try clear hb2)
  (try clear hk)
  (try clear hi)
  refine hK.out _ _ (and_24 BK402.out (cells_11 BK401.out)) (fun hHeld => ?_)
  clear hK K
  refine norm_ (a' := ?_) ?_ ?_
  rotate_left
  ·show Act.put _ (some 22) _ = _
   simp only [Act.put, List.setIfInBounds_toArray, List.set_cons_zero, List.set_cons_succ, i64_w, i32_w]
   rfl
  refine one_ (i := 11) (N := some 26) #[true, true, true, true, true, true, true, true, true, true, true, true, true, true, false, false] rfl rfl (one_of HT_.out (by kernel_rfl)) (by decide) (fun K hK => ?_)
  refine goes_ Try.func27 (by kernel_rfl) rfl #[.agg #[.int .i64 a0_0, .int .i64 a0_1, .int .i64 a0_2, .int .i64 a0_3, .int .i64 a0_4, .int .i64 a0_5, .int .i64 a0_6, .int .i64 a0_7, .int .i64 a0_8, .int .i64 a0_9, .slice A0_10 l0_10.length c0_10], .string a1_9, .slice none 0 0] (by rfl) rfl rfl (by (try simp only [List.map_toArray, List.map_cons, List.map_nil]); first | done | rfl) ?_
  refine (r25_Mark.calls k a0_0 a0_1 a0_2 a0_3 a0_4 a0_5 a0_6 a0_7 a0_8 a0_9 _ _ l0_10 a1_9 _ _ ([] : List Int) t407 _ ?side1 ?side2 ?side3 ?side4 A10.out).mono ?_
  (case side1 => exact Kd.C_kept_now HR0_10.out (by repeat (first | (with_reducible first | exact HK.out | apply Kept.alloc | apply Kept.drewN | apply Kept.drew | refine Kept.setCell ?_ (.inr GW401.out) _ | refine Kept.setCell ?_ (.inr GW402.out) _ | refine Kept.setCell ?_ (.inr GW403.out) _) | exact HK.out)))
  (case side2 => exact HC0_10.out)
  (case side3 => exact Kd.C_nil _ _)
  (case side4 => exact Nat.le_refl _)
  rintro e w21 ⟨rfl, hb⟩
  refine ⟨_, rfl, ?_⟩
  replace HO4 := HO4
  replace BK401 := Aside0.mk (blk_below BK401.out hb)
  replace BK402 := Aside0.mk (blk_below BK402.out hb)
  replace BK403 := Aside0.mk (blk_below BK403.out hb)
  replace HK := Aside0.mk (Kept.below (S := (fun k_ => P4_ k_)) (by repeat (first | (with_reducible first | exact HK.out | apply Kept.alloc | apply Kept.drewN | apply Kept.drew | refine Kept.setCell ?_ (.inr GW401.out) _ | refine Kept.setCell ?_ (.inr GW402.out) _ | refine Kept.setCell ?_ (.inr GW403.out) _) | exact HK.out)) hb)
  replace HB := Aside0.mk (below_step HB.out hb)
  (try clear hb)
  (try clear hb2)
  (try clear hk)
  (try clear hi)
  obtain ⟨Ao22, co22, eo22⟩ := HO4.out
  (first | subst eo22 | (injection eo22 with f1_ f2_ f3_; have f4_ := f1_.symm; have f5_ := f3_.symm; clear f1_ f2_ f3_; subst f4_; subst f5_))
  refine hK.out _ _ (and_24 BK402.out (cells_11 BK401.out)) (fun hHeld => ?_)
  clear hK K
  refine norm_ (a' := ?_) ?_ ?_
  rotate_left
  ·show Act.put _ (some 26) _ = _
   simp only [Act.put, List.setIfInBounds_toArray, List.set_cons_zero, List.set_cons_succ, i64_w, i32_w]
   rfl
  refine pure_ (i := 14) (N := some 29) (v := ?_) (a' := ?_) #[true, true, true, true, true, true, true, true, true, true, true, true, true, true, true, false] rfl rfl (any_of HT_.out (by kernel_rfl)) (fun _ _ _ h => h) (Or.inl ⟨by rfl, ?_⟩) ?_ ?_
  rotate_left
  ·intro w'
   go_simp
   with_reducible rfl
  rotate_left
  ·simp only [Act.put, List.setIfInBounds_toArray, List.set_cons_zero, List.set_cons_succ, i64_w, i32_w]
   rfl
  refine one_ (i := 15) (N := none) #[true, true, true, true, true, true, true, true, true, true, true, true, true, true, true, true] rfl rfl (one_of HT_.out (by kernel_rfl)) (by decide) (fun K hK => ?_)
  have hs23 : w21.cell? ⟨gb403, 0, none⟩ = some (.bool false) := (blk_cell BK403.out 0).trans rfl
  have hfs23 := blk_frozen BK403.out 0
  have hns23_0 := NB401_403.out
  have hns23_1 := NB402_403.out
  have hms23_0 := NB403_401.out
  have hms23_1 := NB403_402.out
  have hs24 : w21.cell? ⟨gb403, 1, none⟩ = some (.bool false) := (blk_cell BK403.out 1).trans rfl
  have hfs24 := blk_frozen BK403.out 1
  have hns24_0 := NB401_403.out
  have hns24_1 := NB402_403.out
  have hms24_0 := NB403_401.out
  have hms24_1 := NB403_402.out
  have hs25 : w21.cell? ⟨gb403, 2, none⟩ = some (.int .i64 0) := (blk_cell BK403.out 2).trans rfl
  have hfs25 := blk_frozen BK403.out 2
  have hns25_0 := NB401_403.out
  have hns25_1 := NB402_403.out
  have hms25_0 := NB403_401.out
  have hms25_1 := NB403_402.out
  have hs26 : w21.cell? ⟨gb403, 3, none⟩ = some (.int .i64 0) := (blk_cell BK403.out 3).trans rfl
  have hfs26 := blk_frozen BK403.out 3
  have hns26_0 := NB401_403.out
  have hns26_1 := NB402_403.out
  have hms26_0 := NB403_401.out
  have hms26_1 := NB403_402.out
  have hs27 : w21.cell? ⟨gb403, 4, none⟩ = some (.string (⟨#[]⟩ : ByteArray)) := (blk_cell BK403.out 4).trans rfl
  have hfs27 := blk_frozen BK403.out 4
  have hns27_0 := NB401_403.out
  have hns27_1 := NB402_403.out
  have hms27_0 := NB403_401.out
  have hms27_1 := NB403_402.out
  have hs28 : w21.cell? ⟨gb403, 5, none⟩ = some (.int .i64 0) := (blk_cell BK403.out 5).trans rfl
  have hfs28 := blk_frozen BK403.out 5
  have hns28_0 := NB401_403.out
  have hns28_1 := NB402_403.out
  have hms28_0 := NB403_401.out
  have hms28_1 := NB403_402.out
  have hs29 : w21.cell? ⟨gb403, 6, none⟩ = some (.slice none 0 0) := (blk_cell BK403.out 6).trans rfl
  have hfs29 := blk_frozen BK403.out 6
  have hns29_0 := NB401_403.out
  have hns29_1 := NB402_403.out
  have hms29_0 := NB403_401.out
  have hms29_1 := NB403_402.out
  refine skip_ (w1 := ?_) (by rfl) rfl ?_ ?_
  rotate_left
  ·go_simp
   rfl
  refine hK.out _ _ (and_24 (blk_far (p := ⟨gb403, _, none⟩) (blk_far (p := ⟨gb403, _, none⟩) (blk_far (p := ⟨gb403, _, none⟩) (blk_far (p := ⟨gb403, _, none⟩) (blk_far (p := ⟨gb403, _, none⟩) (blk_far (p := ⟨gb403, _, none⟩) (blk_far (p := ⟨gb403, _, none⟩) BK402.out NB402_403.out _) NB402_403.out _) NB402_403.out _) NB402_403.out _) NB402_403.out _) NB402_403.out _) NB402_403.out _) (cells_11 (blk_far (p := ⟨gb403, _, none⟩) (blk_far (p := ⟨gb403, _, none⟩) (blk_far (p := ⟨gb403, _, none⟩) (blk_far (p := ⟨gb403, _, none⟩) (blk_far (p := ⟨gb403, _, none⟩) (blk_far (p := ⟨gb403, _, none⟩) (blk_far (p := ⟨gb403, _, none⟩) BK401.out NB401_403.out _) NB401_403.out _) NB401_403.out _) NB401_403.out _) NB401_403.out _) NB401_403.out _) NB401_403.out _))) (fun hHeld => ?_)
  clear hK K
  refine done_ (done_of HT_.out (by kernel_rfl)) ?_
  try go_wp2
  refine bodyPost_ret (results_cell_row rfl _ _ gb403 37 #[.bool a2, .bool t405, .int .i64 a1_7, .int .i64 t406, .string t407, .int .i64 a3, .slice Ao22 l4.length co22] (0, 0) _ rfl (by (with_reducible repeat (first | refine blk_drewN ?_ _ | refine blk_drew ?_ | refine blk_alloc ?_ _)); refine blk_put (cs := #[.bool a2, .bool t405, .int .i64 a1_7, .int .i64 t406, .string t407, .int .i64 a3, .slice none 0 0]) ?_ 6 _ rfl; (with_reducible repeat (first | refine blk_drewN ?_ _ | refine blk_drew ?_ | refine blk_alloc ?_ _)); refine blk_put (cs := #[.bool a2, .bool t405, .int .i64 a1_7, .int .i64 t406, .string t407, .int .i64 0, .slice none 0 0]) ?_ 5 _ rfl; (with_reducible repeat (first | refine blk_drewN ?_ _ | refine blk_drew ?_ | refine blk_alloc ?_ _)); refine blk_put (cs := #[.bool a2, .bool t405, .int .i64 a1_7, .int .i64 t406, .string (⟨#[]⟩ : ByteArray), .int .i64 0, .slice none 0 0]) ?_ 4 _ rfl; (with_reducible repeat (first | refine blk_drewN ?_ _ | refine blk_drew ?_ | refine blk_alloc ?_ _)); refine blk_put (cs := #[.bool a2, .bool t405, .int .i64 a1_7, .int .i64 0, .string (⟨#[]⟩ : ByteArray), .int .i64 0, .slice none 0 0]) ?_ 3 _ rfl; (with_reducible repeat (first | refine blk_drewN ?_ _ | refine blk_drew ?_ | refine blk_alloc ?_ _)); refine blk_put (cs := #[.bool a2, .bool t405, .int .i64 0, .int .i64 0, .string (⟨#[]⟩ : ByteArray), .int .i64 0, .slice none 0 0]) ?_ 2 _ rfl; (with_reducible repeat (first | refine blk_drewN ?_ _ | refine blk_drew ?_ | refine blk_alloc ?_ _)); refine blk_put (cs := #[.bool a2, .bool false, .int .i64 0, .int .i64 0, .string (⟨#[]⟩ : ByteArray), .int .i64 0, .slice none 0 0]) ?_ 1 _ rfl; (with_reducible repeat (first | refine blk_drewN ?_ _ | refine blk_drew ?_ | refine blk_alloc ?_ _)); refine blk_put (cs := #[.bool false, .bool false, .int .i64 0, .int .i64 0, .string (⟨#[]⟩ : ByteArray), .int .i64 0, .slice none 0 0]) ?_ 0 _ rfl; (with_reducible repeat (first | refine blk_drewN ?_ _ | refine blk_drew ?_ | refine blk_alloc ?_ _)); exact BK403.out) Try.underlying37 rfl (by kernel_rfl)) rfl ?_
  exact ⟨_, by first | rfl | (simp [*] <;> rfl), by first | exact .inl ⟨rfl, rfl⟩ | exact .inr ⟨rfl, rfl⟩ | exact .inl ⟨rfl, trivial⟩ | exact .inr ⟨rfl, trivial⟩ | (simp; done) | (simp [*]; done), by repeat (first | (with_reducible first | exact HB.out | apply below_alloc | apply pw_below_drewN | apply below_drew1 | refine below_set ?_ GE401.out | refine below_set ?_ GE402.out | refine below_set ?_ GE403.out) | exact HB.out), by repeat (first | (with_reducible first | exact HK.out | apply Kept.alloc | apply Kept.drewN | apply Kept.drew | refine Kept.setCell ?_ (.inr GW401.out) _ | refine Kept.setCell ?_ (.inr GW402.out) _ | refine Kept.setCell ?_ (.inr GW403.out) _) | exact HK.out)⟩
 ·rw [if_neg c7] at H
  have c7b0 : (t404 == 0) = false := beq_eq_false_iff_ne.mpr c7
  have c7b1 : (t404 != 0) = true := bne_iff_ne.mpr c7
  simp only [Option.some.injEq, Prod.mk.injEq] at H
  obtain ⟨rfl, rfl, rfl, rfl, rfl, rfl, rfl⟩ := H
  go_enter Try.func13, Try.ntmps13
  go_wp2_with (first | ((with_reducible refine gate_load (t := 30) (x := .tmp 6) rfl ?_); refine load_row_g (cs := ?_) ?hw 30 (.tmp 6) ?h2 gb402 ?hx 30 (fr := (0, 0)) (d := ?_) ?hg ?h3 ?h4 ?hi ?_; (case hw => first | (with_reducible rfl) | (go_simp; done) | rfl); (case h2 => rfl); (case hx => first | (with_reducible rfl) | (go_simp; done) | rfl); (case hg => (with_reducible repeat (first | refine blk_drewN ?_ _ | refine blk_drew ?_ | refine blk_alloc ?_ _)); with_reducible exact BK402.out); (case h3 => exact Try.underlying30); (case h4 => rfl); (case hi => kernel_rfl)) | ((with_reducible refine gate_dst (N := 5) rfl ?_); refine box_event ?hg (N := 5) ?hd (cs := #[.int .i64 a0_0, .int .i64 a0_1, .int .i64 a0_2, .int .i64 a0_3, .int .i64 a0_4, .int .i64 a0_5, .int .i64 a0_6, .int .i64 a0_7, .int .i64 a0_8, .int .i64 a0_9, .slice A0_10 l0_10.length c0_10]) (t := 24) ?hr ?_; (case hd => rfl); (case hg => rfl); (case hr => first | (go_simp; done) | (go_simp; rfl)); intro gb401 hg w30 hbox hb; replace HO4 := HO4; have BK401 := Aside0.mk (hbox); have GW401 := Aside0.mk ((by rw [hg]; exact (by first | exact HK.out.1 | exact (show Kept w _ (fun k_ => P4_ k_) from by repeat (first | (with_reducible first | exact HK.out | apply Kept.alloc | apply Kept.drewN | apply Kept.drew) | exact HK.out)).1) : w.heap.size ≤ gb401)); replace HK := Aside0.mk (Kept.below (S := (fun k_ => P4_ k_)) (by repeat (first | (with_reducible first | exact HK.out | apply Kept.alloc | apply Kept.drewN | apply Kept.drew) | exact HK.out)) hb); have GE401 := Aside0.mk ((by rw [hg]; exact (below_size HB.out) : w0.heap.size ≤ gb401)); replace HB := Aside0.mk (below_step HB.out hb); clear hb hbox hg) | ((with_reducible refine gate_dst (N := 6) rfl ?_); refine box_event ?hg (N := 6) ?hd (cs := #[.int .i64 a1_0, .int .i64 a1_1, .int .i64 a1_2, .string a1_3, .int .i64 a1_4, .string a1_5, .string a1_6, .int .i64 a1_7, .int .i64 a1_8, .string a1_9, .string a1_10, .string a1_11, .string a1_12, .string a1_13, .string a1_14, .slice A1_15 l1_15.length c1_15, .slice A1_16 l1_16.length c1_16, .slice A1_17 l1_17.length c1_17, .int .i64 a1_18, .int .i64 a1_19, .int .i64 a1_20, .int .i64 a1_21, .int .i64 a1_22, .int .i64 a1_23]) (t := 30) ?hr ?_; (case hd => rfl); (case hg => rfl); (case hr => first | (go_simp; done) | (go_simp; rfl)); intro gb402 hg w31 hbox hb; replace HO4 := HO4; have BK402 := Aside0.mk (hbox); have GW402 := Aside0.mk ((by rw [hg]; exact (by first | exact HK.out.1 | exact (show Kept w _ (fun k_ => P4_ k_) from by repeat (first | (with_reducible first | exact HK.out | apply Kept.alloc | apply Kept.drewN | apply Kept.drew | refine Kept.setCell ?_ (.inr GW401.out) _) | exact HK.out)).1) : w.heap.size ≤ gb402)); replace HK := Aside0.mk (Kept.below (S := (fun k_ => P4_ k_)) (by repeat (first | (with_reducible first | exact HK.out | apply Kept.alloc | apply Kept.drewN | apply Kept.drew | refine Kept.setCell ?_ (.inr GW401.out) _) | exact HK.out)) hb); have GE402 := Aside0.mk ((by rw [hg]; exact (below_size HB.out) : w0.heap.size ≤ gb402)); replace HB := Aside0.mk (below_step HB.out hb); have NB401_402 := Aside0.mk ((by rw [hg]; exact Nat.ne_of_lt (blk_lt BK401.out) : gb401 ≠ gb402)); have NB402_401 := Aside0.mk NB401_402.out.symm; replace BK401 := Aside0.mk (blk_below BK401.out hb); clear hb hbox hg) | ((with_reducible refine gate_dst (N := 10) rfl ?_); refine box_event ?hg (N := 10) ?hd (cs := #[.bool false, .bool false, .int .i64 0, .int .i64 0, .string (⟨#[]⟩ : ByteArray), .int .i64 0, .slice none 0 0]) (t := 37) ?hr ?_; (case hd => rfl); (case hg => rfl); (case hr => first | (go_simp; done) | (go_simp; rfl)); intro gb403 hg w32 hbox hb; replace HO4 := HO4; have BK403 := Aside0.mk (hbox); have GW403 := Aside0.mk ((by rw [hg]; exact (by first | exact HK.out.1 | exact (show Kept w _ (fun k_ => P4_ k_) from by repeat (first | (with_reducible first | exact HK.out | apply Kept.alloc | apply Kept.drewN | apply Kept.drew | refine Kept.setCell ?_ (.inr GW401.out) _ | refine Kept.setCell ?_ (.inr GW402.out) _) | exact HK.out)).1) : w.heap.size ≤ gb403)); replace HK := Aside0.mk (Kept.below (S := (fun k_ => P4_ k_)) (by repeat (first | (with_reducible first | exact HK.out | apply Kept.alloc | apply Kept.drewN | apply Kept.drew | refine Kept.setCell ?_ (.inr GW401.out) _ | refine Kept.setCell ?_ (.inr GW402.out) _) | exact HK.out)) hb); have GE403 := Aside0.mk ((by rw [hg]; exact (below_size HB.out) : w0.heap.size ≤ gb403)); replace HB := Aside0.mk (below_step HB.out hb); have NB401_403 := Aside0.mk ((by rw [hg]; exact Nat.ne_of_lt (blk_lt BK401.out) : gb401 ≠ gb403)); have NB403_401 := Aside0.mk NB401_403.out.symm; replace BK401 := Aside0.mk (blk_below BK401.out hb); have NB402_403 := Aside0.mk ((by rw [hg]; exact Nat.ne_of_lt (blk_lt BK402.out) : gb402 ≠ gb403)); have NB403_402 := Aside0.mk NB402_403.out.symm; replace BK402 := Aside0.mk (blk_below BK402.out hb); clear hb hbox hg; have hnb33 := NB401_402.out; have hnc33 := NB402_401.out; have hnb34 := NB401_403.out; have hnc34 := NB403_401.out; obtain ⟨hcz35_0, hcz35_1, hcz35_2, hcz35_3, hcz35_4, hcz35_5, hcz35_6, hcz35_7, hcz35_8, hcz35_9, hcz35_10⟩ := cells_11 BK401.out; obtain ⟨hfz35_0, hfz35_1, hfz35_2, hfz35_3, hfz35_4, hfz35_5, hfz35_6, hfz35_7, hfz35_8, hfz35_9, hfz35_10⟩ := frozen_11 BK401.out) | ((with_reducible refine gate_callee (f := 22) rfl ?_); refine goesL_ (some 12) rfl rfl Try.func22 (by kernel_rfl) rfl #[.agg #[.int .i64 a0_0, .int .i64 a0_1, .int .i64 a0_2, .int .i64 a0_3, .int .i64 a0_4, .int .i64 a0_5, .int .i64 a0_6, .int .i64 a0_7, .int .i64 a0_8, .int .i64 a0_9, .slice A0_10 l0_10.length c0_10]] rfl (by (try simp only [List.map_toArray, List.map_cons, List.map_nil]); first | done | rfl) ?_; (with_reducible refine (r03_Plain.calls k a0_0 a0_1 a0_2 a0_3 a0_4 a0_5 a0_6 a0_7 a0_8 a0_9 _ _ l0_10 t404 _ ?side1 ?side2 A6.out).mono ?_); (case side1 => exact Kd.C_kept_now HR0_10.out (by repeat (first | (with_reducible first | exact HK.out | apply Kept.alloc | apply Kept.drewN | apply Kept.drew | refine Kept.setCell ?_ (.inr GW401.out) _ | refine Kept.setCell ?_ (.inr GW402.out) _ | refine Kept.setCell ?_ (.inr GW403.out) _) | exact HK.out))); (case side2 => exact HC0_10.out); rintro e w36 ⟨rfl, hb⟩; refine ⟨_, rfl, ?_⟩; replace HO4 := HO4; replace BK401 := Aside0.mk (blk_below BK401.out hb); replace BK402 := Aside0.mk (blk_below BK402.out hb); replace BK403 := Aside0.mk (blk_below BK403.out hb); replace HK := Aside0.mk (Kept.below (S := (fun k_ => P4_ k_)) (by repeat (first | (with_reducible first | exact HK.out | apply Kept.alloc | apply Kept.drewN | apply Kept.drew | refine Kept.setCell ?_ (.inr GW401.out) _ | refine Kept.setCell ?_ (.inr GW402.out) _ | refine Kept.setCell ?_ (.inr GW403.out) _) | exact HK.out)) hb); replace HB := Aside0.mk (below_step HB.out hb); (try clear hb)) | ((with_reducible refine gate_store (t := 37) (p := 10) rfl ?_); refine row_store_event (t := 37) (p := 10) (v := ?vo_w37) ?hgd ?ho ?hn gb403 #[.bool false, .bool false, .int .i64 0, .int .i64 (-1), .string (⟨#[]⟩ : ByteArray), .int .i64 0, .slice none 0 0] ?hx ?hy 37 #[.bool false, .bool false, .int .i64 0, .int .i64 0, .string (⟨#[]⟩ : ByteArray), .int .i64 0, .slice none 0 0] ?hg ?hi ?hold ?h1 ?_; (case hgd => rfl); (case ho => rfl); (case hn => rfl); (case hx => rfl); (case hy => rfl); (case hg => exact (by (with_reducible repeat (first | refine blk_drewN ?_ _ | refine blk_drew ?_ | refine blk_alloc ?_ _)); exact BK403.out)); (case hi => kernel_rfl); (case hold => rfl); (case h1 => (first | kernel_rfl | simp [Value.oneCell'])); intro w37 hw; have n0_ := HO4; have n1_ : Aside0 (w37.heap[gb401]? = some (.cells #[.int .i64 a0_0, .int .i64 a0_1, .int .i64 a0_2, .int .i64 a0_3, .int .i64 a0_4, .int .i64 a0_5, .int .i64 a0_6, .int .i64 a0_7, .int .i64 a0_8, .int .i64 a0_9, .slice A0_10 l0_10.length c0_10] 24 (0, 0))) := ⟨(by rw [hw]; exact (by (with_reducible repeat (first | refine blk_drewN ?_ _ | refine blk_drew ?_ | refine blk_alloc ?_ _)); refine blk_farc ?_ NB401_403.out; (with_reducible repeat (first | refine blk_drewN ?_ _ | refine blk_drew ?_ | refine blk_alloc ?_ _)); exact BK401.out))⟩; have n2_ : Aside0 (w37.heap[gb402]? = some (.cells #[.int .i64 a1_0, .int .i64 a1_1, .int .i64 a1_2, .string a1_3, .int .i64 a1_4, .string a1_5, .string a1_6, .int .i64 a1_7, .int .i64 a1_8, .string a1_9, .string a1_10, .string a1_11, .string a1_12, .string a1_13, .string a1_14, .slice A1_15 l1_15.length c1_15, .slice A1_16 l1_16.length c1_16, .slice A1_17 l1_17.length c1_17, .int .i64 a1_18, .int .i64 a1_19, .int .i64 a1_20, .int .i64 a1_21, .int .i64 a1_22, .int .i64 a1_23] 30 (0, 0))) := ⟨(by rw [hw]; exact (by (with_reducible repeat (first | refine blk_drewN ?_ _ | refine blk_drew ?_ | refine blk_alloc ?_ _)); refine blk_farc ?_ NB402_403.out; (with_reducible repeat (first | refine blk_drewN ?_ _ | refine blk_drew ?_ | refine blk_alloc ?_ _)); exact BK402.out))⟩; have n3_ : Aside0 (w37.heap[gb403]? = some (.cells #[.bool false, .bool false, .int .i64 0, .int .i64 (-1), .string (⟨#[]⟩ : ByteArray), .int .i64 0, .slice none 0 0] 37 (0, 0))) := ⟨(by rw [hw]; exact (by (with_reducible repeat (first | refine blk_drewN ?_ _ | refine blk_drew ?_ | refine blk_alloc ?_ _)); refine setRow_heap _ _ #[.bool false, .bool false, .int .i64 0, .int .i64 0, .string (⟨#[]⟩ : ByteArray), .int .i64 0, .slice none 0 0] _ 37 (0, 0) ?_; (with_reducible repeat (first | refine blk_drewN ?_ _ | refine blk_drew ?_ | refine blk_alloc ?_ _)); exact BK403.out))⟩; have n4_ : Aside0 (Below w0.heap.size w0 w37) := ⟨(by rw [hw]; exact (by repeat (first | (with_reducible first | exact HB.out | refine below_setc ?_ GE403.out | apply below_alloc | apply pw_below_drewN | apply below_drew1 | refine below_set ?_ GE401.out | refine below_set ?_ GE402.out | refine below_set ?_ GE403.out) | exact HB.out)))⟩; have n5_ : Aside0 (Kept w w37 (fun k_ => P4_ k_)) := ⟨(by rw [hw]; exact ((by repeat (first | (with_reducible first | exact HK.out | refine kept_setc ?_ (.inr GW403.out) | apply Kept.alloc | apply Kept.drewN | apply Kept.drew | refine Kept.setCell ?_ (.inr GW401.out) _ | refine Kept.setCell ?_ (.inr GW402.out) _ | refine Kept.setCell ?_ (.inr GW403.out) _) | exact HK.out))))⟩; clear hw; clear HO4; clear BK401; clear BK402; clear BK403; clear HB; clear HK; have HO4 := n0_; have BK401 := n1_; have BK402 := n2_; have BK403 := n3_; have HB := n4_; have HK := n5_; clear n0_ n1_ n2_ n3_ n4_ n5_))
  refine bodyPost_ret (results_cell_row rfl _ _ gb403 37 #[.bool false, .bool false, .int .i64 0, .int .i64 (-1), .string (⟨#[]⟩ : ByteArray), .int .i64 0, .slice none 0 0] (0, 0) _ rfl (by (with_reducible repeat (first | refine blk_drewN ?_ _ | refine blk_drew ?_ | refine blk_alloc ?_ _)); exact BK403.out) Try.underlying37 rfl (by kernel_rfl)) rfl ?_
  exact ⟨_, by first | rfl | (simp [*] <;> rfl), by first | exact .inl ⟨rfl, rfl⟩ | exact .inr ⟨rfl, rfl⟩ | exact .inl ⟨rfl, trivial⟩ | exact .inr ⟨rfl, trivial⟩ | (simp; done) | (simp [*]; done), by repeat (first | (with_reducible first | exact HB.out | apply below_alloc | apply pw_below_drewN | apply below_drew1 | refine below_set ?_ GE401.out | refine below_set ?_ GE402.out | refine below_set ?_ GE403.out) | exact HB.out), by repeat (first | (with_reducible first | exact HK.out | apply Kept.alloc | apply Kept.drewN | apply Kept.drew | refine Kept.setCell ?_ (.inr GW401.out) _ | refine Kept.setCell ?_ (.inr GW402.out) _ | refine Kept.setCell ?_ (.inr GW403.out) _) | exact HK.out)⟩
set_option maxHeartbeats 8000000 in
set_option maxRecDepth 100000 in
theorem r27_Report.calls (k : Nat) (a0_0 a0_1 a0_2 a0_3 a0_4 a0_5 a0_6 a0_7 a0_8 a0_9 : Int) (A0_10 : Option Addr) (c0_10 : Nat) (l0_10 : List Int) (a1_0 a1_1 a1_2 : Int) (a1_3 : ByteArray) (a1_4 : Int) (a1_5 a1_6 : ByteArray) (a1_7 a1_8 : Int) (a1_9 a1_10 a1_11 a1_12 a1_13 a1_14 : ByteArray) (A1_15 : Option Addr) (c1_15 : Nat) (l1_15 : List (S96)) (A1_16 : Option Addr) (c1_16 : Nat) (l1_16 : List ByteArray) (A1_17 : Option Addr) (c1_17 : Nat) (l1_17 : List (S98)) (a1_18 a1_19 a1_20 a1_21 a1_22 a1_23 : Int) (a2 : Bool) (a3 : Int) (A4 : Option Addr) (c4 : Nat) (l4 : List (S50)) (r1 r2 : Bool) (r3 r4 : Int) (r5 : ByteArray) (r6 : Int) (r7 : List (S50)) (w : World) (hr0_10 : Kd.C (Kd.int .i64) w A0_10 l0_10.length l0_10) (hc0_10 : l0_10.length ≤ c0_10) (hr1_15 : Kd.C k96 w A1_15 l1_15.length l1_15) (hc1_15 : l1_15.length ≤ c1_15) (hr1_16 : Kd.C Kd.string w A1_16 l1_16.length l1_16) (hc1_16 : l1_16.length ≤ c1_16) (hr1_17 : Kd.C k98 w A1_17 l1_17.length l1_17) (hc1_17 : l1_17.length ≤ c1_17) (hr4 : Kd.C k50 w A4 l4.length l4) (hc4 : l4.length ≤ c4) (h : r27_Report.f k a0_0 a0_1 a0_2 a0_3 a0_4 a0_5 a0_6 a0_7 a0_8 a0_9 l0_10 a1_0 a1_1 a1_2 a1_3 a1_4 a1_5 a1_6 a1_7 a1_8 a1_9 a1_10 a1_11 a1_12 a1_13 a1_14 l1_15 l1_16 l1_17 a1_18 a1_19 a1_20 a1_21 a1_22 a1_23 a2 a3 l4 = some (r1, r2, r3, r4, r5, r6, r7)) :
    Calls Try.prog 13 #[.agg #[.int .i64 a0_0, .int .i64 a0_1, .int .i64 a0_2, .int .i64 a0_3, .int .i64 a0_4, .int .i64 a0_5, .int .i64 a0_6, .int .i64 a0_7, .int .i64 a0_8, .int .i64 a0_9, .slice A0_10 l0_10.length c0_10], .agg #[.int .i64 a1_0, .int .i64 a1_1, .int .i64 a1_2, .string a1_3, .int .i64 a1_4, .string a1_5, .string a1_6, .int .i64 a1_7, .int .i64 a1_8, .string a1_9, .string a1_10, .string a1_11, .string a1_12, .string a1_13, .string a1_14, .slice A1_15 l1_15.length c1_15, .slice A1_16 l1_16.length c1_16, .slice A1_17 l1_17.length c1_17, .int .i64 a1_18, .int .i64 a1_19, .int .i64 a1_20, .int .i64 a1_21, .int .i64 a1_22, .int .i64 a1_23], .bool a2, .int .i64 a3, (.slice A4 l4.length c4)] w fun e w' => ∃ A_ c_, e = .returned (.agg #[.bool r1, .bool r2, .int .i64 r3, .int .i64 r4, .string r5, .int .i64 r6, .slice A_ r7.length c_]) ∧ ((A_ = A4 ∧ r7 = l4 ∧ c_ = c4) ∨ (A_ = none ∧ r7 = [] ∧ c_ = 0)) ∧ Below w.heap.size w w' := by
 refine (r27_Report.callsU k a0_0 a0_1 a0_2 a0_3 a0_4 a0_5 a0_6 a0_7 a0_8 a0_9 A0_10 c0_10 l0_10 a1_0 a1_1 a1_2 a1_3 a1_4 a1_5 a1_6 a1_7 a1_8 a1_9 a1_10 a1_11 a1_12 a1_13 a1_14 A1_15 c1_15 l1_15 A1_16 c1_16 l1_16 A1_17 c1_17 l1_17 a1_18 a1_19 a1_20 a1_21 a1_22 a1_23 a2 a3 (fun _ => False) (.slice A4 l4.length c4) l4 r1 r2 r3 r4 r5 r6 r7 w w (Below.refl _ _) (Kd.C_kept_came (Kd.heap_int .i64) hr0_10 (Below.refl _ _) (fun _ h => h.elim)) hc0_10 (Kd.C_kept_came k96_heap hr1_15 (Below.refl _ _) (fun _ h => h.elim)) hc1_15 (Kd.C_kept_came Kd.heap_string hr1_16 (Below.refl _ _) (fun _ h => h.elim)) hc1_16 (Kd.C_kept_came k98_heap hr1_17 (Below.refl _ _) (fun _ h => h.elim)) hc1_17 ⟨A4, c4, rfl⟩ h).mono ?_
 rintro e w' ⟨v, rfl, hs_, hb, _⟩
 rcases hs_ with ⟨rfl, rfl⟩ | ⟨rfl, rfl⟩
 ·exact ⟨A4, c4, rfl, .inl ⟨rfl, rfl, rfl⟩, hb⟩
 ·exact ⟨none, 0, rfl, .inr ⟨rfl, rfl, rfl⟩, hb⟩
end Go.Proofs.Ythmnlopmocjpaaa.Gn
