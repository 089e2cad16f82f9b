import Derived.Test.YthdoghhmooodjaaZScriptCutsGn0
import Derived.Test.YthdoghhmooodjaaZScriptCutsGn1
import Derived.Test.YthdoghhmooodjaaZScriptCutsGn3
namespace Go.Proofs.Ythdoghhmooodjaa.Gn
open Go.RowKit Go.Proofs.YthdoghhmooodjaaW.PrintWords Go.Proofs.YthdoghhmooodjaaW.PrintLast Go.Proofs.YthdoghhmooodjaaW.PrintMore
attribute [local go_sem] max2_int min2_int max_two min_two max_three min_three max_four min_four   -- for this text's walks alone
set_option linter.unusedVariables false
set_option linter.unusedSimpArgs false
theorem gen_world {Q : World → Prop} {W : World} (R : World → Prop) (hR : R W) (h : ∀ W', R W' → Q W') : Q W := h W hR
set_option maxHeartbeats 600000 in
set_option maxRecDepth 100000 in
theorem bound_of.calls0 (k : Nat) (a0 a1 a2 a3 a4 a5 a6 a7 a8 a9 : Int) (A : Option Addr) (c : Nat) (l : List Int) (p : Int) (w : World) (hr : Kd.C (Kd.int .i64) w A l.length l) (hc : l.length ≤ c) (h : conf_Plain.f k a0 a1 a2 a3 a4 a5 a6 a7 a8 a9 l = some p) :
  Calls Try.prog 62 #[.agg #[.int .i64 a0, .int .i64 a1, .int .i64 a2, .int .i64 a3, .int .i64 a4, .int .i64 a5, .int .i64 a6, .int .i64 a7, .int .i64 a8, .int .i64 a9, .slice A l.length c]] w fun e w' => e = .returned (.tuple #[.agg #[.int .i64 a0, .int .i64 a1, .int .i64 a2, .int .i64 a3, .int .i64 a4, .int .i64 a5, .int .i64 a6, .int .i64 a7, .int .i64 a8, .int .i64 a9, .slice A l.length c], .bool (p == 0)]) ∧ Below w.heap.size w w' := by
 have hu24 := Try.underlying24
 have hu68 := Try.underlying68
 have H := am_ h
 have HR := am_ hr
 have HC := am_ hc
 clear h hr hc
 go_enter Try.func62, Try.ntmps62
 go_wp2
 go_region_with (go_at_call 54; refine (conf_Plain.calls k a0 a1 a2 a3 a4 a5 a6 a7 a8 a9 A c l p _ ?s1 HC.out H.out).mono ?_; (case s1 => repeat (first | exact HR.out | (with_reducible refine Kd.C_alloc ?_ _) | (with_reducible refine Kd.C_drewN ?_ _) | (with_reducible refine Kd.C_drew ?_))); rintro e w1 ⟨rfl, hb⟩; have hz : w.heap.size + 1 < w1.heap.size := (by have := hb.size; simp at this; omega); have hbN : w1.heap[w.heap.size]? = some (.cells #[.int .i64 a0, .int .i64 a1, .int .i64 a2, .int .i64 a3, .int .i64 a4, .int .i64 a5, .int .i64 a6, .int .i64 a7, .int .i64 a8, .int .i64 a9, .slice A l.length c] 24 (0, 0)) := (hb.block _ (by simp; omega)).trans (by first | exact blk_alloc (blk_new w _) _ | exact blk_drew (blk_alloc (blk_new w _) _)); have hbS : w1.heap[w.heap.size + 1]? = some (.cells #[.int .i64 0, .int .i64 0, .int .i64 0, .int .i64 0, .int .i64 0, .int .i64 0, .int .i64 0, .int .i64 0, .int .i64 0, .int .i64 0, .slice none 0 0] 68 (0, 0)) := (hb.block _ (by simp)).trans (by have := blk_new (w.alloc (.cells #[.int .i64 a0, .int .i64 a1, .int .i64 a2, .int .i64 a3, .int .i64 a4, .int .i64 a5, .int .i64 a6, .int .i64 a7, .int .i64 a8, .int .i64 a9, .slice A l.length c] 24)) (.cells #[.int .i64 0, .int .i64 0, .int .i64 0, .int .i64 0, .int .i64 0, .int .i64 0, .int .i64 0, .int .i64 0, .int .i64 0, .int .i64 0, .slice none 0 0] 68); rw [World.size_alloc] at this; exact this); have qa0 : w1.cell? ⟨w.heap.size, 0, none⟩ = some (.int .i64 a0) := (blk_cell hbN 0).trans rfl; have qaf0 : w1.frozen? ⟨w.heap.size, 0, none⟩ = false := blk_frozen hbN 0; have qa1 : w1.cell? ⟨w.heap.size, 1, none⟩ = some (.int .i64 a1) := (blk_cell hbN 1).trans rfl; have qaf1 : w1.frozen? ⟨w.heap.size, 1, none⟩ = false := blk_frozen hbN 1; have qa2 : w1.cell? ⟨w.heap.size, 2, none⟩ = some (.int .i64 a2) := (blk_cell hbN 2).trans rfl; have qaf2 : w1.frozen? ⟨w.heap.size, 2, none⟩ = false := blk_frozen hbN 2; have qa3 : w1.cell? ⟨w.heap.size, 3, none⟩ = some (.int .i64 a3) := (blk_cell hbN 3).trans rfl; have qaf3 : w1.frozen? ⟨w.heap.size, 3, none⟩ = false := blk_frozen hbN 3; have qa4 : w1.cell? ⟨w.heap.size, 4, none⟩ = some (.int .i64 a4) := (blk_cell hbN 4).trans rfl; have qaf4 : w1.frozen? ⟨w.heap.size, 4, none⟩ = false := blk_frozen hbN 4; have qa5 : w1.cell? ⟨w.heap.size, 5, none⟩ = some (.int .i64 a5) := (blk_cell hbN 5).trans rfl; have qaf5 : w1.frozen? ⟨w.heap.size, 5, none⟩ = false := blk_frozen hbN 5; have qa6 : w1.cell? ⟨w.heap.size, 6, none⟩ = some (.int .i64 a6) := (blk_cell hbN 6).trans rfl; have qaf6 : w1.frozen? ⟨w.heap.size, 6, none⟩ = false := blk_frozen hbN 6; have qa7 : w1.cell? ⟨w.heap.size, 7, none⟩ = some (.int .i64 a7) := (blk_cell hbN 7).trans rfl; have qaf7 : w1.frozen? ⟨w.heap.size, 7, none⟩ = false := blk_frozen hbN 7; have qa8 : w1.cell? ⟨w.heap.size, 8, none⟩ = some (.int .i64 a8) := (blk_cell hbN 8).trans rfl; have qaf8 : w1.frozen? ⟨w.heap.size, 8, none⟩ = false := blk_frozen hbN 8; have qa9 : w1.cell? ⟨w.heap.size, 9, none⟩ = some (.int .i64 a9) := (blk_cell hbN 9).trans rfl; have qaf9 : w1.frozen? ⟨w.heap.size, 9, none⟩ = false := blk_frozen hbN 9; have qa10 : w1.cell? ⟨w.heap.size, 10, none⟩ = some (.slice A l.length c) := (blk_cell hbN 10).trans rfl; have qaf10 : w1.frozen? ⟨w.heap.size, 10, none⟩ = false := blk_frozen hbN 10; have qb0 : w1.cell? ⟨w.heap.size + 1, 0, none⟩ = some (.int .i64 0) := (blk_cell hbS 0).trans rfl; have qbf0 : w1.frozen? ⟨w.heap.size + 1, 0, none⟩ = false := blk_frozen hbS 0; have qb1 : w1.cell? ⟨w.heap.size + 1, 1, none⟩ = some (.int .i64 0) := (blk_cell hbS 1).trans rfl; have qbf1 : w1.frozen? ⟨w.heap.size + 1, 1, none⟩ = false := blk_frozen hbS 1; have qb2 : w1.cell? ⟨w.heap.size + 1, 2, none⟩ = some (.int .i64 0) := (blk_cell hbS 2).trans rfl; have qbf2 : w1.frozen? ⟨w.heap.size + 1, 2, none⟩ = false := blk_frozen hbS 2; have qb3 : w1.cell? ⟨w.heap.size + 1, 3, none⟩ = some (.int .i64 0) := (blk_cell hbS 3).trans rfl; have qbf3 : w1.frozen? ⟨w.heap.size + 1, 3, none⟩ = false := blk_frozen hbS 3; have qb4 : w1.cell? ⟨w.heap.size + 1, 4, none⟩ = some (.int .i64 0) := (blk_cell hbS 4).trans rfl; have qbf4 : w1.frozen? ⟨w.heap.size + 1, 4, none⟩ = false := blk_frozen hbS 4; have qb5 : w1.cell? ⟨w.heap.size + 1, 5, none⟩ = some (.int .i64 0) := (blk_cell hbS 5).trans rfl; have qbf5 : w1.frozen? ⟨w.heap.size + 1, 5, none⟩ = false := blk_frozen hbS 5; have qb6 : w1.cell? ⟨w.heap.size + 1, 6, none⟩ = some (.int .i64 0) := (blk_cell hbS 6).trans rfl; have qbf6 : w1.frozen? ⟨w.heap.size + 1, 6, none⟩ = false := blk_frozen hbS 6; have qb7 : w1.cell? ⟨w.heap.size + 1, 7, none⟩ = some (.int .i64 0) := (blk_cell hbS 7).trans rfl; have qbf7 : w1.frozen? ⟨w.heap.size + 1, 7, none⟩ = false := blk_frozen hbS 7; have qb8 : w1.cell? ⟨w.heap.size + 1, 8, none⟩ = some (.int .i64 0) := (blk_cell hbS 8).trans rfl; have qbf8 : w1.frozen? ⟨w.heap.size + 1, 8, none⟩ = false := blk_frozen hbS 8; have qb9 : w1.cell? ⟨w.heap.size + 1, 9, none⟩ = some (.int .i64 0) := (blk_cell hbS 9).trans rfl; have qbf9 : w1.frozen? ⟨w.heap.size + 1, 9, none⟩ = false := blk_frozen hbS 9; have qb10 : w1.cell? ⟨w.heap.size + 1, 10, none⟩ = some (.slice none 0 0) := (blk_cell hbS 10).trans rfl; have qbf10 : w1.frozen? ⟨w.heap.size + 1, 10, none⟩ = false := blk_frozen hbS 10; have HB1 := am_ (show Below w.heap.size w w1 from (by first | exact ((below_alloc (below_alloc (Below.refl _ _) _) _)).trans (hb.mono (by simp; omega)) | exact ((below_drew (below_alloc (below_alloc (Below.refl _ _) _) _))).trans (hb.mono (by simp; omega)))); clear hb)
 all_goals
  clear qa0 qaf0 qb0 qbf0 qa1 qaf1 qb1 qbf1 qa2 qaf2 qb2 qbf2 qa3 qaf3 qb3 qbf3 qa4 qaf4 qb4 qbf4 qa5 qaf5 qb5 qbf5 qa6 qaf6 qb6 qbf6 qa7 qaf7 qb7 qbf7 qa8 qaf8 qb8 qbf8 qa9 qaf9 qb9 qbf9 qa10 qaf10 qb10 qbf10
  refine gen_world (Q := fun W => Exit.then _ _ _ _ W) (fun W => W.heap[w.heap.size + 1]? = some (.cells #[.int .i64 a0, .int .i64 a1, .int .i64 a2, .int .i64 a3, .int .i64 a4, .int .i64 a5, .int .i64 a6, .int .i64 a7, .int .i64 a8, .int .i64 a9, .slice A l.length c] 68 (0, 0)) ∧ Below w.heap.size w W) ?_ ?_
  ·refine ⟨?_, ?_⟩
   ·refine ((blk_set (blk_set (blk_set (blk_set (blk_set (blk_set (blk_set (blk_set (blk_set (blk_set (blk_set hbS 0 (.int .i64 a0)) 1 (.int .i64 a1)) 2 (.int .i64 a2)) 3 (.int .i64 a3)) 4 (.int .i64 a4)) 5 (.int .i64 a5)) 6 (.int .i64 a6)) 7 (.int .i64 a7)) 8 (.int .i64 a8)) 9 (.int .i64 a9)) 10 (.slice A l.length c))).trans ?_
    simp only [List.setIfInBounds_toArray, List.set_cons_zero, List.set_cons_succ]
   ·(repeat (first | with_reducible exact HB1.out | (with_reducible refine Below.setCell ?_ (by simp) _) | with_reducible apply below_drew))
  ·clear hbS hbN hz HB1
   rintro W ⟨hF, hB⟩
   have qc0 : W.cell? ⟨w.heap.size + 1, 0, none⟩ = some (.int .i64 a0) := (blk_cell hF 0).trans rfl
   have qc1 : W.cell? ⟨w.heap.size + 1, 1, none⟩ = some (.int .i64 a1) := (blk_cell hF 1).trans rfl
   have qc2 : W.cell? ⟨w.heap.size + 1, 2, none⟩ = some (.int .i64 a2) := (blk_cell hF 2).trans rfl
   have qc3 : W.cell? ⟨w.heap.size + 1, 3, none⟩ = some (.int .i64 a3) := (blk_cell hF 3).trans rfl
   have qc4 : W.cell? ⟨w.heap.size + 1, 4, none⟩ = some (.int .i64 a4) := (blk_cell hF 4).trans rfl
   have qc5 : W.cell? ⟨w.heap.size + 1, 5, none⟩ = some (.int .i64 a5) := (blk_cell hF 5).trans rfl
   have qc6 : W.cell? ⟨w.heap.size + 1, 6, none⟩ = some (.int .i64 a6) := (blk_cell hF 6).trans rfl
   have qc7 : W.cell? ⟨w.heap.size + 1, 7, none⟩ = some (.int .i64 a7) := (blk_cell hF 7).trans rfl
   have qc8 : W.cell? ⟨w.heap.size + 1, 8, none⟩ = some (.int .i64 a8) := (blk_cell hF 8).trans rfl
   have qc9 : W.cell? ⟨w.heap.size + 1, 9, none⟩ = some (.int .i64 a9) := (blk_cell hF 9).trans rfl
   have qc10 : W.cell? ⟨w.heap.size + 1, 10, none⟩ = some (.slice A l.length c) := (blk_cell hF 10).trans rfl
   have HB2 := am_ hB
   clear hB hF
   go_wp2
   refine bodyPost_ret (v := .tuple #[.agg #[.int .i64 a0, .int .i64 a1, .int .i64 a2, .int .i64 a3, .int .i64 a4, .int .i64 a5, .int .i64 a6, .int .i64 a7, .int .i64 a8, .int .i64 a9, .slice A l.length c], .bool (p == 0)]) ?_ rfl ⟨rfl, HB2.out⟩
   simp [results, Try.results62, go_sem, hu68, qc0, qc1, qc2, qc3, qc4, qc5, qc6, qc7, qc8, qc9, qc10]
def bound_of.f (k : Nat) (a0_0 a0_1 a0_2 a0_3 a0_4 a0_5 a0_6 a0_7 a0_8 a0_9 : Int) (l0_10 : List Int) : Option Bool := (conf_Plain.f k a0_0 a0_1 a0_2 a0_3 a0_4 a0_5 a0_6 a0_7 a0_8 a0_9 l0_10).bind fun p => some (p == 0)
theorem bound_of.mono : ∀ a0 a1 a2 a3 a4 a5 a6 a7 a8 a9 a10 k, LeO (bound_of.f k a0 a1 a2 a3 a4 a5 a6 a7 a8 a9 a10) (bound_of.f (k + 1) a0 a1 a2 a3 a4 a5 a6 a7 a8 a9 a10) := by
 intro a0 a1 a2 a3 a4 a5 a6 a7 a8 a9 a10 k
 exact LeO.bind (conf_Plain.mono _ _ _ _ _ _ _ _ _ _ _ _) (fun _ => LeO.refl _)
theorem bound_of.calls (k : Nat) (a0_0 a0_1 a0_2 a0_3 a0_4 a0_5 a0_6 a0_7 a0_8 a0_9 : Int) (A0_10 : Option Addr) (c0_10 : Nat) (l0_10 : List Int) (r : Bool) (w : World) (hr0_10 : Kd.C (Kd.int .i64) w A0_10 l0_10.length l0_10) (hc0_10 : l0_10.length ≤ c0_10) (h : bound_of.f k a0_0 a0_1 a0_2 a0_3 a0_4 a0_5 a0_6 a0_7 a0_8 a0_9 l0_10 = some r) :
  Calls Try.prog 62 #[.agg #[.int .i64 a0_0, .int .i64 a0_1, .int .i64 a0_2, .int .i64 a0_3, .int .i64 a0_4, .int .i64 a0_5, .int .i64 a0_6, .int .i64 a0_7, .int .i64 a0_8, .int .i64 a0_9, .slice A0_10 l0_10.length c0_10]] w fun e w' => e = .returned (.tuple #[.agg #[.int .i64 a0_0, .int .i64 a0_1, .int .i64 a0_2, .int .i64 a0_3, .int .i64 a0_4, .int .i64 a0_5, .int .i64 a0_6, .int .i64 a0_7, .int .i64 a0_8, .int .i64 a0_9, .slice A0_10 l0_10.length c0_10], .bool r]) ∧ Below w.heap.size w w' := by
 obtain ⟨p, hp, h⟩ := Option.bind_eq_some_iff.mp h
 obtain rfl := Option.some.inj h
 exact bound_of.calls0 k _ _ _ _ _ _ _ _ _ _ _ _ _ p w hr0_10 hc0_10 hp
def bound_plain_begin.f (a0_0 a0_1 a0_2 a0_3 a0_4 a0_5 a0_6 a0_7 a0_8 a0_9 : Int) (l0_10 : List Int) (a1 : Int) : Option (Int) := some (wrap64 (a0_6 + (wrap64 (a1 * a0_7))))
set_option maxHeartbeats 8000000 in
set_option maxRecDepth 100000 in
theorem bound_plain_begin.calls (a0_0 a0_1 a0_2 a0_3 a0_4 a0_5 a0_6 a0_7 a0_8 a0_9 : Int) (A0_10 : Option Addr) (c0_10 : Nat) (l0_10 : List Int) (a1 r : Int) (w : World) (hr0_10 : Kd.C (Kd.int .i64) w A0_10 l0_10.length l0_10) (hc0_10 : l0_10.length ≤ c0_10) (h : bound_plain_begin.f a0_0 a0_1 a0_2 a0_3 a0_4 a0_5 a0_6 a0_7 a0_8 a0_9 l0_10 a1 = some r) :
  Calls Try.prog 108 #[.agg #[.int .i64 a0_0, .int .i64 a0_1, .int .i64 a0_2, .int .i64 a0_3, .int .i64 a0_4, .int .i64 a0_5, .int .i64 a0_6, .int .i64 a0_7, .int .i64 a0_8, .int .i64 a0_9, .slice A0_10 l0_10.length c0_10], .int .i64 a1] w fun e w' => e = .returned (.int .i64 r) ∧ Below w.heap.size w w' := by
 have hu68 := Try.underlying68
 have HR0_10 := am_ hr0_10
 have HC0_10 := am_ hc0_10
 clear hr0_10 hc0_10
 have HB := am_ (Below.refl w.heap.size w)
 have H : (some (wrap64 (a0_6 + (wrap64 (a1 * a0_7))))) = some r := h
 clear h
 obtain rfl := Option.some.inj H
 go_enter Try.func108, Try.ntmps108
 go_wp2_with (first | ((with_reducible refine gate_dst (N := 2) rfl ?_); refine bxe_ 2 68 #[.int .i64 a0_0, .int .i64 a0_1, .int .i64 a0_2, .int .i64 a0_3, .int .i64 a0_4, .int .i64 a0_5, .int .i64 a0_6, .int .i64 a0_7, .int .i64 a0_8, .int .i64 a0_9, .slice A0_10 l0_10.length c0_10] ?_; intro gb401 hg w3 hbox hb; have BK401 := am_ (hbox); have GW401 := gwk_ HB hg; have GE401 := GW401; replace HB := bst_ HB hb; clear hb hbox hg; have hcz4 := cells_11 BK401.out; have hfz4 := frozen_11 BK401.out))
 go_ret
 exact ⟨by first | rfl | (simp [*] <;> rfl), by repeat (first | (with_reducible first | exact HB.out | apply ba_ | apply bn_ | apply bd_ | refine bs_ ?_ GE401.out) | exact HB.out)⟩
def bound_plain_middle.f (a0_0 a0_1 a0_2 a0_3 a0_4 a0_5 a0_6 a0_7 a0_8 a0_9 : Int) (l0_10 : List Int) (a1 : Int) : Option (Int) := (bound_plain_begin.f a0_0 a0_1 a0_2 a0_3 a0_4 a0_5 a0_6 a0_7 a0_8 a0_9 l0_10 a1).bind fun t402 => (some (wrap64 (t402 + (wrap64 (Int.tdiv a0_7 2)))))
def bound_plain_middle.T1 : Bool × List (List Nat × List Nat) := (true, [([], []), ([], []), ([0, 1], [0, 1]), ([], []), ([3], [3]), ([4], [4]), ([5], [5]), ([2, 6], [2, 6]), ([7, 2, 0, 1, 2, 3, 4, 5, 6, 7], [7])])
def bound_plain_middle.B1 : List Nat := [0, 0, 3, 0, 8, 24, 56, 127, 255]
theorem bound_plain_middle.tab1 : rtab .any (opsOf Try.f107 1) = bound_plain_middle.T1 := by kernel_rfl
theorem bound_plain_middle.bits1 : waitsOk bound_plain_middle.T1.2 bound_plain_middle.B1 = true := by kernel_rfl
set_option maxHeartbeats 8000000 in
set_option maxRecDepth 100000 in
theorem bound_plain_middle.calls (a0_0 a0_1 a0_2 a0_3 a0_4 a0_5 a0_6 a0_7 a0_8 a0_9 : Int) (A0_10 : Option Addr) (c0_10 : Nat) (l0_10 : List Int) (a1 r : Int) (w : World) (hr0_10 : Kd.C (Kd.int .i64) w A0_10 l0_10.length l0_10) (hc0_10 : l0_10.length ≤ c0_10) (h : bound_plain_middle.f a0_0 a0_1 a0_2 a0_3 a0_4 a0_5 a0_6 a0_7 a0_8 a0_9 l0_10 a1 = some r) :
  Calls Try.prog 107 #[.agg #[.int .i64 a0_0, .int .i64 a0_1, .int .i64 a0_2, .int .i64 a0_3, .int .i64 a0_4, .int .i64 a0_5, .int .i64 a0_6, .int .i64 a0_7, .int .i64 a0_8, .int .i64 a0_9, .slice A0_10 l0_10.length c0_10], .int .i64 a1] w fun e w' => e = .returned (.int .i64 r) ∧ Below w.heap.size w w' := by
 have hu68 := Try.underlying68
 have HR0_10 := am_ hr0_10
 have HC0_10 := am_ hc0_10
 clear hr0_10 hc0_10
 have HB := am_ (Below.refl w.heap.size w)
 have H := h
 unfold bound_plain_middle.f at H
 clear h
 obtain ⟨t402, A3, H⟩ := bes_ H
 try dsimp only at H
 obtain rfl := Option.some.inj H
 go_enter Try.func107, Try.ntmps107
 try go_wp2_with (first | ((with_reducible refine gate_dst (N := 2) rfl ?_); refine bxe_ 2 68 #[.int .i64 a0_0, .int .i64 a0_1, .int .i64 a0_2, .int .i64 a0_3, .int .i64 a0_4, .int .i64 a0_5, .int .i64 a0_6, .int .i64 a0_7, .int .i64 a0_8, .int .i64 a0_9, .slice A0_10 l0_10.length c0_10] ?_; intro gb401 hg w4 hbox hb; have BK401 := am_ (hbox); have GW401 := gwk_ HB hg; have GE401 := GW401; replace HB := bst_ HB hb; clear hb hbox hg))
 replace BK401 := am_ (blk_drew BK401.out)
 replace HB := am_ (below_drew1 HB.out)
 refine start_ (n := 9) (S := fun w' => ce_ w' gb401 0 (.int .i64 a0_0) ∧ ce_ w' gb401 1 (.int .i64 a0_1) ∧ ce_ w' gb401 2 (.int .i64 a0_2) ∧ ce_ w' gb401 3 (.int .i64 a0_3) ∧ ce_ w' gb401 4 (.int .i64 a0_4) ∧ ce_ w' gb401 5 (.int .i64 a0_5) ∧ ce_ w' gb401 6 (.int .i64 a0_6) ∧ ce_ w' gb401 7 (.int .i64 a0_7) ∧ ce_ w' gb401 8 (.int .i64 a0_8) ∧ ce_ w' gb401 9 (.int .i64 a0_9) ∧ ce_ w' gb401 10 (.slice A0_10 l0_10.length c0_10)) (ds := []) #[false, false, false, false, false, false, false, false, false] (by kernel_rfl) rfl rfl ⟨(blk_cell BK401.out 0).trans rfl, (blk_cell BK401.out 1).trans rfl, (blk_cell BK401.out 2).trans rfl, (blk_cell BK401.out 3).trans rfl, (blk_cell BK401.out 4).trans rfl, (blk_cell BK401.out 5).trans rfl, (blk_cell BK401.out 6).trans rfl, (blk_cell BK401.out 7).trans rfl, (blk_cell BK401.out 8).trans rfl, (blk_cell BK401.out 9).trans rfl, (blk_cell BK401.out 10).trans rfl⟩ (fun hHeld => ?_); refine with_tabW bound_plain_middle.tab1 bound_plain_middle.bits1 (fun HT_ HW_ => ?_)
 generalize w4.drew = w5 at BK401 HB hHeld ⊢
 refine pur_ 1 (some 6) rfl rfl (any_of HT_.out (by kernel_rfl)) ?_
 refine pur_ 3 (some 8) rfl rfl (any_of HT_.out (by kernel_rfl)) ?_
 refine pur_ 4 (some 9) rfl rfl (any_of HT_.out (by kernel_rfl)) ?_
 refine tak_ 0 (some 5) rfl rfl (take_ofW HT_.out HW_.out (by kernel_rfl)) hHeld ?_ (by rintro w' ⟨s0, s1, s2, s3, s4, s5, s6, s7, s8, s9, s10⟩; go_simp; with_reducible rfl)
 refine tak_ 5 (some 10) rfl rfl (take_ofW HT_.out HW_.out (by kernel_rfl)) hHeld ?_ (by rintro w' ⟨s0, s1, s2, s3, s4, s5, s6, s7, s8, s9, s10⟩; go_simp; with_reducible rfl)
 refine pur_ 6 (some 11) rfl rfl (any_of HT_.out (by kernel_rfl)) ?_
 refine oon_ 2 (some 7) rfl rfl (one_of HT_.out (by kernel_rfl)) (fun K hK => ?_)
 refine gos_ Try.func108 (bound_plain_begin.calls a0_0 a0_1 a0_2 a0_3 a0_4 a0_5 a0_6 a0_7 a0_8 a0_9 _ _ l0_10 a1 _ _ (Kd.C_below HR0_10.out HB.out) HC0_10.out A3.out) ?_
 rintro e w6 ⟨rfl, hb⟩
 refine ⟨_, rfl, ?_⟩
 replace BK401 := bkb_ BK401 hb
 replace HB := bst_ HB hb
 (try clear hb)
 (try clear hb2)
 (try clear hk)
 (try clear hi)
 refine hK.out _ _ (cells_11 BK401.out) (fun hHeld => ?_)
 clear hK K
 refine nor_ 7 ?_
 refine pur_ 7 (some 12) rfl rfl (any_of HT_.out (by kernel_rfl)) ?_
 refine pur_ 8 (some 4) rfl rfl (any_of HT_.out (by kernel_rfl)) ?_
 refine done_ (done_of HT_.out (by kernel_rfl)) ?_
 try go_wp2
 go_ret
 exact ⟨by first | rfl | (simp [*] <;> rfl), by repeat (first | (with_reducible first | exact HB.out | apply ba_ | apply bn_ | apply bd_ | refine bs_ ?_ GE401.out) | exact HB.out)⟩
def bound_plain_last.f (a0_0 a0_1 a0_2 a0_3 a0_4 a0_5 a0_6 a0_7 a0_8 a0_9 : Int) (l0_10 : List Int) : Option (Int) := (bound_plain_middle.f a0_0 a0_1 a0_2 a0_3 a0_4 a0_5 a0_6 a0_7 a0_8 a0_9 l0_10 (wrap64 ((l0_10.length : Int) - 1))).bind fun t402 => (some t402)
set_option maxHeartbeats 8000000 in
set_option maxRecDepth 100000 in
theorem bound_plain_last.calls (a0_0 a0_1 a0_2 a0_3 a0_4 a0_5 a0_6 a0_7 a0_8 a0_9 : Int) (A0_10 : Option Addr) (c0_10 : Nat) (l0_10 : List Int) (r : Int) (w : World) (hr0_10 : Kd.C (Kd.int .i64) w A0_10 l0_10.length l0_10) (hc0_10 : l0_10.length ≤ c0_10) (h : bound_plain_last.f a0_0 a0_1 a0_2 a0_3 a0_4 a0_5 a0_6 a0_7 a0_8 a0_9 l0_10 = some r) :
  Calls Try.prog 94 #[.agg #[.int .i64 a0_0, .int .i64 a0_1, .int .i64 a0_2, .int .i64 a0_3, .int .i64 a0_4, .int .i64 a0_5, .int .i64 a0_6, .int .i64 a0_7, .int .i64 a0_8, .int .i64 a0_9, .slice A0_10 l0_10.length c0_10]] w fun e w' => e = .returned (.int .i64 r) ∧ Below w.heap.size w w' := by
 have hu68 := Try.underlying68
 have HR0_10 := am_ hr0_10
 have HC0_10 := am_ hc0_10
 clear hr0_10 hc0_10
 have HB := am_ (Below.refl w.heap.size w)
 have H := h
 unfold bound_plain_last.f at H
 clear h
 replace H := Option.bind_eq_some_iff.mp H
 obtain ⟨t402, A20, H⟩ := H
 replace H : (some t402) = some r := H
 have A2 := am_ A20
 clear A20
 obtain rfl := Option.some.inj H
 go_enter Try.func94, Try.ntmps94
 go_wp2_with (first | ((with_reducible refine gate_dst (N := 1) rfl ?_); refine bxe_ 1 68 #[.int .i64 a0_0, .int .i64 a0_1, .int .i64 a0_2, .int .i64 a0_3, .int .i64 a0_4, .int .i64 a0_5, .int .i64 a0_6, .int .i64 a0_7, .int .i64 a0_8, .int .i64 a0_9, .slice A0_10 l0_10.length c0_10] ?_; intro gb401 hg w3 hbox hb; have BK401 := am_ (hbox); have GW401 := gwk_ HB hg; have GE401 := GW401; replace HB := bst_ HB hb; clear hb hbox hg; have hcz4 := cells_11 BK401.out; have hfz4 := frozen_11 BK401.out) | ((with_reducible refine gate_callee (f := 107) rfl ?_); refine gom_ (some 9) Try.func107 (bound_plain_middle.calls a0_0 a0_1 a0_2 a0_3 a0_4 a0_5 a0_6 a0_7 a0_8 a0_9 _ _ l0_10 (wrap64 ((l0_10.length : Int) - 1)) _ _ (Kd.C_below HR0_10.out HB.out) HC0_10.out A2.out) ?_; rintro e w5 ⟨rfl, hb⟩; refine ⟨_, rfl, ?_⟩; replace BK401 := bkb_ BK401 hb; replace HB := bst_ HB hb; (try clear hb)))
 go_ret
 exact ⟨by first | rfl | (simp [*] <;> rfl), by repeat (first | (with_reducible first | exact HB.out | apply ba_ | apply bn_ | apply bd_ | refine bs_ ?_ GE401.out) | exact HB.out)⟩
def bound_plain_slowest.f (a0_0 a0_1 a0_2 a0_3 a0_4 a0_5 a0_6 a0_7 a0_8 a0_9 : Int) (l0_10 : List Int) : Option (Int) := some (wrap64 (a0_4 - a0_5))
set_option maxHeartbeats 8000000 in
set_option maxRecDepth 100000 in
theorem bound_plain_slowest.calls (a0_0 a0_1 a0_2 a0_3 a0_4 a0_5 a0_6 a0_7 a0_8 a0_9 : Int) (A0_10 : Option Addr) (c0_10 : Nat) (l0_10 : List Int) (r : Int) (w : World) (hr0_10 : Kd.C (Kd.int .i64) w A0_10 l0_10.length l0_10) (hc0_10 : l0_10.length ≤ c0_10) (h : bound_plain_slowest.f a0_0 a0_1 a0_2 a0_3 a0_4 a0_5 a0_6 a0_7 a0_8 a0_9 l0_10 = some r) :
  Calls Try.prog 95 #[.agg #[.int .i64 a0_0, .int .i64 a0_1, .int .i64 a0_2, .int .i64 a0_3, .int .i64 a0_4, .int .i64 a0_5, .int .i64 a0_6, .int .i64 a0_7, .int .i64 a0_8, .int .i64 a0_9, .slice A0_10 l0_10.length c0_10]] w fun e w' => e = .returned (.int .i64 r) ∧ Below w.heap.size w w' := by
 have hu68 := Try.underlying68
 have HR0_10 := am_ hr0_10
 have HC0_10 := am_ hc0_10
 clear hr0_10 hc0_10
 have HB := am_ (Below.refl w.heap.size w)
 have H : (some (wrap64 (a0_4 - a0_5))) = some r := h
 clear h
 obtain rfl := Option.some.inj H
 go_enter Try.func95, Try.ntmps95
 go_wp2_with (first | ((with_reducible refine gate_dst (N := 1) rfl ?_); refine bxe_ 1 68 #[.int .i64 a0_0, .int .i64 a0_1, .int .i64 a0_2, .int .i64 a0_3, .int .i64 a0_4, .int .i64 a0_5, .int .i64 a0_6, .int .i64 a0_7, .int .i64 a0_8, .int .i64 a0_9, .slice A0_10 l0_10.length c0_10] ?_; intro gb401 hg w2 hbox hb; have BK401 := am_ (hbox); have GW401 := gwk_ HB hg; have GE401 := GW401; replace HB := bst_ HB hb; clear hb hbox hg; have hcz3 := cells_11 BK401.out; have hfz3 := frozen_11 BK401.out))
 go_ret
 exact ⟨by first | rfl | (simp [*] <;> rfl), by repeat (first | (with_reducible first | exact HB.out | apply ba_ | apply bn_ | apply bd_ | refine bs_ ?_ GE401.out) | exact HB.out)⟩
def bound_plain_guard.f (a0_0 a0_1 a0_2 a0_3 a0_4 a0_5 a0_6 a0_7 a0_8 a0_9 : Int) (l0_10 : List Int) : Option (Int) := (bound_plain_last.f a0_0 a0_1 a0_2 a0_3 a0_4 a0_5 a0_6 a0_7 a0_8 a0_9 l0_10).bind fun t402 => ((bound_plain_slowest.f a0_0 a0_1 a0_2 a0_3 a0_4 a0_5 a0_6 a0_7 a0_8 a0_9 l0_10).bind fun t403 => ((bound_plain_slowest.f a0_0 a0_1 a0_2 a0_3 a0_4 a0_5 a0_6 a0_7 a0_8 a0_9 l0_10).bind fun t404 => (if t404 = 0 then (none) else (some (wrap64 ((wrap64 ((wrap64 (Int.tdiv (wrap64 ((wrap64 ((wrap64 ((wrap64 (2 * a0_5)) * t402)) + t403)) - 1)) t404)) + a0_4)) + (wrap64 ((wrap64 (a0_2 + 1)) * a0_5))))))))
def bound_plain_guard.T1 : Bool × List (List Nat × List Nat) := (true, [([], []), ([0], [0]), ([1], [1]), ([2], [2]), ([], []), ([4], [4]), ([3, 5], [3, 5]), ([6, 5, 0, 1, 2, 3, 4, 5, 6], [6])])
def bound_plain_guard.B1 : List Nat := [0, 1, 3, 7, 0, 16, 63, 127]
theorem bound_plain_guard.tab1 : rtab .any (opsOf Try.f63 1) = bound_plain_guard.T1 := by kernel_rfl
theorem bound_plain_guard.bits1 : waitsOk bound_plain_guard.T1.2 bound_plain_guard.B1 = true := by kernel_rfl
def bound_plain_guard.T2 : Bool × List (List Nat × List Nat) := (true, [([], []), ([], []), ([1], [1]), ([0, 2], [0, 2]), ([3], [3]), ([], []), ([5, 2], [5]), ([4, 6], [4, 6]), ([], []), ([8], [8]), ([9], [9]), ([7, 10], [7, 10]), ([], []), ([12], [12]), ([13], [13]), ([14], [14]), ([], []), ([16], [16]), ([17], [17]), ([15, 18], [15, 18]), ([11, 19], [11, 19]), ([20, 6, 0, 1, 2, 3, 4, 5, 6, 7, 8, 9, 10, 11, 12, 13, 14, 15, 16, 17, 18, 19, 20], [20])])
def bound_plain_guard.B2 : List Nat := [0, 0, 2, 7, 15, 0, 38, 127, 0, 256, 768, 2047, 0, 4096, 12288, 28672, 0, 65536, 196608, 520192, 1048575, 2097151]
theorem bound_plain_guard.tab2 : rtab .any (opsOf Try.f63 2) = bound_plain_guard.T2 := by kernel_rfl
theorem bound_plain_guard.bits2 : waitsOk bound_plain_guard.T2.2 bound_plain_guard.B2 = true := by kernel_rfl
set_option maxHeartbeats 8000000 in
set_option maxRecDepth 100000 in
theorem bound_plain_guard.calls (a0_0 a0_1 a0_2 a0_3 a0_4 a0_5 a0_6 a0_7 a0_8 a0_9 : Int) (A0_10 : Option Addr) (c0_10 : Nat) (l0_10 : List Int) (r : Int) (w : World) (hr0_10 : Kd.C (Kd.int .i64) w A0_10 l0_10.length l0_10) (hc0_10 : l0_10.length ≤ c0_10) (h : bound_plain_guard.f a0_0 a0_1 a0_2 a0_3 a0_4 a0_5 a0_6 a0_7 a0_8 a0_9 l0_10 = some r) :
  Calls Try.prog 63 #[.agg #[.int .i64 a0_0, .int .i64 a0_1, .int .i64 a0_2, .int .i64 a0_3, .int .i64 a0_4, .int .i64 a0_5, .int .i64 a0_6, .int .i64 a0_7, .int .i64 a0_8, .int .i64 a0_9, .slice A0_10 l0_10.length c0_10]] w fun e w' => e = .returned (.int .i64 r) ∧ Below w.heap.size w w' := by
 have hu68 := Try.underlying68
 have HR0_10 := am_ hr0_10
 have HC0_10 := am_ hc0_10
 clear hr0_10 hc0_10
 have HB := am_ (Below.refl w.heap.size w)
 have H := h
 unfold bound_plain_guard.f at H
 clear h
 obtain ⟨t402, A2, H⟩ := bes_ H
 try dsimp only at H
 obtain ⟨t403, A3, H⟩ := bes_ H
 try dsimp only at H
 obtain ⟨t404, A4, H⟩ := bes_ H
 try dsimp only at H
 by_cases c5 : t404 = 0
 ·rw [if_pos c5] at H
  exact absurd H (by simp)
 ·rw [if_neg c5] at H
  have c5b0 : (t404 == 0) = false := beq_eq_false_iff_ne.mpr c5
  have c5b1 : (t404 != 0) = true := bne_iff_ne.mpr c5
  obtain rfl := Option.some.inj H
  go_enter Try.func63, Try.ntmps63
  try go_wp2_with (first | ((with_reducible refine gate_dst (N := 1) rfl ?_); refine bxe_ 1 68 #[.int .i64 a0_0, .int .i64 a0_1, .int .i64 a0_2, .int .i64 a0_3, .int .i64 a0_4, .int .i64 a0_5, .int .i64 a0_6, .int .i64 a0_7, .int .i64 a0_8, .int .i64 a0_9, .slice A0_10 l0_10.length c0_10] ?_; intro gb401 hg w6 hbox hb; have BK401 := am_ (hbox); have GW401 := gwk_ HB hg; have GE401 := GW401; replace HB := bst_ HB hb; clear hb hbox hg))
  replace BK401 := am_ (blk_drew BK401.out)
  replace HB := am_ (below_drew1 HB.out)
  refine start_ (n := 8) (S := fun w' => ce_ w' gb401 0 (.int .i64 a0_0) ∧ ce_ w' gb401 1 (.int .i64 a0_1) ∧ ce_ w' gb401 2 (.int .i64 a0_2) ∧ ce_ w' gb401 3 (.int .i64 a0_3) ∧ ce_ w' gb401 4 (.int .i64 a0_4) ∧ ce_ w' gb401 5 (.int .i64 a0_5) ∧ ce_ w' gb401 6 (.int .i64 a0_6) ∧ ce_ w' gb401 7 (.int .i64 a0_7) ∧ ce_ w' gb401 8 (.int .i64 a0_8) ∧ ce_ w' gb401 9 (.int .i64 a0_9) ∧ ce_ w' gb401 10 (.slice A0_10 l0_10.length c0_10)) (ds := []) #[false, false, false, false, false, false, false, false] (by kernel_rfl) rfl rfl ⟨(blk_cell BK401.out 0).trans rfl, (blk_cell BK401.out 1).trans rfl, (blk_cell BK401.out 2).trans rfl, (blk_cell BK401.out 3).trans rfl, (blk_cell BK401.out 4).trans rfl, (blk_cell BK401.out 5).trans rfl, (blk_cell BK401.out 6).trans rfl, (blk_cell BK401.out 7).trans rfl, (blk_cell BK401.out 8).trans rfl, (blk_cell BK401.out 9).trans rfl, (blk_cell BK401.out 10).trans rfl⟩ (fun hHeld => ?_); refine with_tabW bound_plain_guard.tab1 bound_plain_guard.bits1 (fun HT_ HW_ => ?_)
  generalize w6.drew = w7 at BK401 HB hHeld ⊢
  refine pur_ 0 (some 4) rfl rfl (any_of HT_.out (by kernel_rfl)) ?_
  refine pur_ 1 (some 5) rfl rfl (any_of HT_.out (by kernel_rfl)) ?_
  refine tak_ 2 (some 6) rfl rfl (take_ofW HT_.out HW_.out (by kernel_rfl)) hHeld ?_ (by rintro w' ⟨s0, s1, s2, s3, s4, s5, s6, s7, s8, s9, s10⟩; go_simp; with_reducible rfl)
  refine pur_ 3 (some 7) rfl rfl (any_of HT_.out (by kernel_rfl)) ?_
  refine tak_ 4 (some 8) rfl rfl (take_ofW HT_.out HW_.out (by kernel_rfl)) hHeld ?_ (by rintro w' ⟨s0, s1, s2, s3, s4, s5, s6, s7, s8, s9, s10⟩; go_simp; with_reducible rfl)
  refine oon_ 5 (some 9) rfl rfl (one_of HT_.out (by kernel_rfl)) (fun K hK => ?_)
  refine gos_ Try.func94 (bound_plain_last.calls a0_0 a0_1 a0_2 a0_3 a0_4 a0_5 a0_6 a0_7 a0_8 a0_9 _ _ l0_10 _ _ (Kd.C_below HR0_10.out HB.out) HC0_10.out A2.out) ?_
  rintro e w8 ⟨rfl, hb⟩
  refine ⟨_, rfl, ?_⟩
  replace BK401 := bkb_ BK401 hb
  replace HB := bst_ HB hb
  (try clear hb)
  (try clear hb2)
  (try clear hk)
  (try clear hi)
  refine hK.out _ _ (cells_11 BK401.out) (fun hHeld => ?_)
  clear hK K
  refine nor_ 9 ?_
  refine pur_ 6 (some 10) rfl rfl (any_of HT_.out (by kernel_rfl)) ?_
  refine pur_ 7 (some 3) rfl rfl (any_of HT_.out (by kernel_rfl)) ?_
  refine done_ (done_of HT_.out (by kernel_rfl)) ?_
  try go_wp2
  replace BK401 := am_ (blk_drew BK401.out)
  replace HB := am_ (below_drew1 HB.out)
  refine start_ (n := 22) (S := fun w' => ce_ w' gb401 0 (.int .i64 a0_0) ∧ ce_ w' gb401 1 (.int .i64 a0_1) ∧ ce_ w' gb401 2 (.int .i64 a0_2) ∧ ce_ w' gb401 3 (.int .i64 a0_3) ∧ ce_ w' gb401 4 (.int .i64 a0_4) ∧ ce_ w' gb401 5 (.int .i64 a0_5) ∧ ce_ w' gb401 6 (.int .i64 a0_6) ∧ ce_ w' gb401 7 (.int .i64 a0_7) ∧ ce_ w' gb401 8 (.int .i64 a0_8) ∧ ce_ w' gb401 9 (.int .i64 a0_9) ∧ ce_ w' gb401 10 (.slice A0_10 l0_10.length c0_10)) (ds := []) #[false, false, false, false, false, false, false, false, false, false, false, false, false, false, false, false, false, false, false, false, false, false] (by kernel_rfl) rfl rfl ⟨(blk_cell BK401.out 0).trans rfl, (blk_cell BK401.out 1).trans rfl, (blk_cell BK401.out 2).trans rfl, (blk_cell BK401.out 3).trans rfl, (blk_cell BK401.out 4).trans rfl, (blk_cell BK401.out 5).trans rfl, (blk_cell BK401.out 6).trans rfl, (blk_cell BK401.out 7).trans rfl, (blk_cell BK401.out 8).trans rfl, (blk_cell BK401.out 9).trans rfl, (blk_cell BK401.out 10).trans rfl⟩ (fun hHeld => ?_); refine with_tabW bound_plain_guard.tab2 bound_plain_guard.bits2 (fun HT_ HW_ => ?_)
  generalize w8.drew = w9 at BK401 HB hHeld ⊢
  refine pur_ 0 (some 11) rfl rfl (any_of HT_.out (by kernel_rfl)) ?_
  refine pur_ 8 (some 19) rfl rfl (any_of HT_.out (by kernel_rfl)) ?_
  refine pur_ 9 (some 20) rfl rfl (any_of HT_.out (by kernel_rfl)) ?_
  refine pur_ 12 (some 23) rfl rfl (any_of HT_.out (by kernel_rfl)) ?_
  refine pur_ 13 (some 24) rfl rfl (any_of HT_.out (by kernel_rfl)) ?_
  refine pur_ 16 (some 27) rfl rfl (any_of HT_.out (by kernel_rfl)) ?_
  refine pur_ 17 (some 28) rfl rfl (any_of HT_.out (by kernel_rfl)) ?_
  refine tak_ 1 (some 12) rfl rfl (take_ofW HT_.out HW_.out (by kernel_rfl)) hHeld ?_ (by rintro w' ⟨s0, s1, s2, s3, s4, s5, s6, s7, s8, s9, s10⟩; go_simp; with_reducible rfl)
  refine tak_ 5 (some 16) rfl rfl (take_ofW HT_.out HW_.out (by kernel_rfl)) hHeld ?_ (by rintro w' ⟨s0, s1, s2, s3, s4, s5, s6, s7, s8, s9, s10⟩; go_simp; with_reducible rfl)
  refine tak_ 10 (some 21) rfl rfl (take_ofW HT_.out HW_.out (by kernel_rfl)) hHeld ?_ (by rintro w' ⟨s0, s1, s2, s3, s4, s5, s6, s7, s8, s9, s10⟩; go_simp; with_reducible rfl)
  refine tak_ 14 (some 25) rfl rfl (take_ofW HT_.out HW_.out (by kernel_rfl)) hHeld ?_ (by rintro w' ⟨s0, s1, s2, s3, s4, s5, s6, s7, s8, s9, s10⟩; go_simp; with_reducible rfl)
  refine pur_ 15 (some 26) rfl rfl (any_of HT_.out (by kernel_rfl)) ?_
  refine tak_ 18 (some 29) rfl rfl (take_ofW HT_.out HW_.out (by kernel_rfl)) hHeld ?_ (by rintro w' ⟨s0, s1, s2, s3, s4, s5, s6, s7, s8, s9, s10⟩; go_simp; with_reducible rfl)
  refine pur_ 19 (some 30) rfl rfl (any_of HT_.out (by kernel_rfl)) ?_
  refine oon_ 2 (some 13) rfl rfl (one_of HT_.out (by kernel_rfl)) (fun K hK => ?_)
  refine gos_ Try.func95 (bound_plain_slowest.calls a0_0 a0_1 a0_2 a0_3 a0_4 a0_5 a0_6 a0_7 a0_8 a0_9 _ _ l0_10 _ _ (Kd.C_below HR0_10.out HB.out) HC0_10.out A3.out) ?_
  rintro e w10 ⟨rfl, hb⟩
  refine ⟨_, rfl, ?_⟩
  replace BK401 := bkb_ BK401 hb
  replace HB := bst_ HB hb
  (try clear hb)
  (try clear hb2)
  (try clear hk)
  (try clear hi)
  refine hK.out _ _ (cells_11 BK401.out) (fun hHeld => ?_)
  clear hK K
  refine nor_ 13 ?_
  refine pur_ 3 (some 14) rfl rfl (any_of HT_.out (by kernel_rfl)) ?_
  refine pur_ 4 (some 15) rfl rfl (any_of HT_.out (by kernel_rfl)) ?_
  refine oon_ 6 (some 17) rfl rfl (one_of HT_.out (by kernel_rfl)) (fun K hK => ?_)
  refine gos_ Try.func95 (bound_plain_slowest.calls a0_0 a0_1 a0_2 a0_3 a0_4 a0_5 a0_6 a0_7 a0_8 a0_9 _ _ l0_10 _ _ (Kd.C_below HR0_10.out HB.out) HC0_10.out A4.out) ?_
  rintro e w11 ⟨rfl, hb⟩
  refine ⟨_, rfl, ?_⟩
  replace BK401 := bkb_ BK401 hb
  replace HB := bst_ HB hb
  (try clear hb)
  (try clear hb2)
  (try clear hk)
  (try clear hi)
  refine hK.out _ _ (cells_11 BK401.out) (fun hHeld => ?_)
  clear hK K
  refine nor_ 17 ?_
  refine pur_ 7 (some 18) rfl rfl (any_of HT_.out (by kernel_rfl)) ?_
  refine pur_ 11 (some 22) rfl rfl (any_of HT_.out (by kernel_rfl)) ?_
  refine pur_ 20 (some 31) rfl rfl (any_of HT_.out (by kernel_rfl)) ?_
  refine pur_ 21 (some 2) rfl rfl (any_of HT_.out (by kernel_rfl)) ?_
  refine done_ (done_of HT_.out (by kernel_rfl)) ?_
  try go_wp2
  go_ret
  exact ⟨by first | rfl | (simp [*] <;> rfl), by repeat (first | (with_reducible first | exact HB.out | apply ba_ | apply bn_ | apply bd_ | refine bs_ ?_ GE401.out) | exact HB.out)⟩
def bound_sound_parts.f (a0_0 a0_1 a0_2 a0_3 a0_4 a0_5 a0_6 a0_7 a0_8 a0_9 : Int) (l0_10 : List Int) (a0_11 : Int) : Option (Bool) := some (decide (a0_7 > (wrap64 (2 * a0_11))))
set_option maxHeartbeats 8000000 in
set_option maxRecDepth 100000 in
theorem bound_sound_parts.calls (a0_0 a0_1 a0_2 a0_3 a0_4 a0_5 a0_6 a0_7 a0_8 a0_9 : Int) (A0_10 : Option Addr) (c0_10 : Nat) (l0_10 : List Int) (a0_11 : Int) (r : Bool) (w : World) (hr0_10 : Kd.C (Kd.int .i64) w A0_10 l0_10.length l0_10) (hc0_10 : l0_10.length ≤ c0_10) (h : bound_sound_parts.f a0_0 a0_1 a0_2 a0_3 a0_4 a0_5 a0_6 a0_7 a0_8 a0_9 l0_10 a0_11 = some r) :
  Calls Try.prog 64 #[.agg #[.int .i64 a0_0, .int .i64 a0_1, .int .i64 a0_2, .int .i64 a0_3, .int .i64 a0_4, .int .i64 a0_5, .int .i64 a0_6, .int .i64 a0_7, .int .i64 a0_8, .int .i64 a0_9, .slice A0_10 l0_10.length c0_10, .int .i64 a0_11]] w fun e w' => e = .returned (.bool r) ∧ Below w.heap.size w w' := by
 have HR0_10 := am_ hr0_10
 have HC0_10 := am_ hc0_10
 clear hr0_10 hc0_10
 have HB := am_ (Below.refl w.heap.size w)
 have H : (some (decide (a0_7 > (wrap64 (2 * a0_11))))) = some r := h
 clear h
 obtain rfl := Option.some.inj H
 go_enter Try.func64, Try.ntmps64
 go_wp2_with (first | ((with_reducible refine gate_load (t := 72) (x := .tmp 1) rfl ?_); refine lrg_ 72 (.tmp 1) gb401 72 (by exact BK401.out) Try.underlying72 ?_) | ((with_reducible refine gate_dst (N := 1) rfl ?_); refine bxe_ 1 72 #[.int .i64 a0_0, .int .i64 a0_1, .int .i64 a0_2, .int .i64 a0_3, .int .i64 a0_4, .int .i64 a0_5, .int .i64 a0_6, .int .i64 a0_7, .int .i64 a0_8, .int .i64 a0_9, .slice A0_10 l0_10.length c0_10, .int .i64 a0_11] ?_; intro gb401 hg w2 hbox hb; have BK401 := am_ (hbox); have GW401 := gwk_ HB hg; have GE401 := GW401; replace HB := bst_ HB hb; clear hb hbox hg; have hall1_ := cells_12 BK401.out; have hall2_ := frozen_12 BK401.out))
 go_ret
 exact ⟨by first | rfl | (simp [*] <;> rfl), by repeat (first | (with_reducible first | exact HB.out | apply ba_ | apply bn_ | apply bd_ | refine bs_ ?_ GE401.out) | exact HB.out)⟩
end Go.Proofs.Ythdoghhmooodjaa.Gn
