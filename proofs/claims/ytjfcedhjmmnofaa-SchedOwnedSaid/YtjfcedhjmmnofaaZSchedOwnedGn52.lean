import Derived.Test.YtjfcedhjmmnofaaZSchedOwnedGn0
import Derived.Test.YtjfcedhjmmnofaaZSchedOwnedGn1
import Derived.Test.YtjfcedhjmmnofaaZSchedOwnedGn2
import Derived.Test.YtjfcedhjmmnofaaZSchedOwnedGn5
import Derived.Test.YtjfcedhjmmnofaaZSchedOwnedGn8
import Derived.Test.YtjfcedhjmmnofaaZSchedOwnedGn14
import Derived.Shelf.Abstract
import Derived.RangeFuncNested
import Derived.RangeFuncBound
import Derived.RangeFuncCalls
import Derived.RangeFuncLeaves
import Derived.RangeFuncBox
import Derived.Shelf.RegionOpen
import Derived.WalkKit
import Derived.OwnWalkIn
import Derived.TacticsInMore
import Derived.LoopNIn
import Derived.LoopIn
namespace Go.Proofs.Ytjfcedhjmmnofaa.Gn
open Go.RowKit Go.Proofs.YtjfcedhjmmnofaaW.PrintWords Go.Proofs.YtjfcedhjmmnofaaW.PrintLast Go.Proofs.YtjfcedhjmmnofaaW.PrintMore
attribute [local go_sem] max2_int min2_int max_two min_two max_three min_three max_four min_four   -- for this text's walks alone
set_option linter.unusedVariables false
set_option linter.unusedSimpArgs false
def bellwetherlaw21_SchedOwned.f (k : Nat) (a0_0 a0_1 a0_2 a0_3 a0_4 a0_5 a0_6 a0_7 a0_8 a0_9 : Int) (l0_10 : List Int) (a1 a2 : Int) : Option Bool := (conf_Plain.f k a0_0 a0_1 a0_2 a0_3 a0_4 a0_5 a0_6 a0_7 a0_8 a0_9 l0_10).bind fun t => (bellwetherref21_Owned.f k a0_0 a0_1 a0_2 a0_3 a0_4 a0_5 a0_6 a0_7 a0_8 a0_9 l0_10 a1).bind fun L => (bellwetherlaw21_known.f k).bind fun kn => if kn = true ∧ L = ownedL l0_10 a1 (if t == 0 then l0_10.length else 0) then some true else none
section
attribute [local go_sem] Oper.semAt_some
set_option maxRecDepth 100000 in
set_option maxHeartbeats 16000000 in
theorem bellwetherlaw21_SchedOwned.calls (k : Nat) (a0_0 a0_1 a0_2 a0_3 a0_4 a0_5 a0_6 a0_7 a0_8 a0_9 : Int) (A0_10 : Option Addr) (c0_10 : Nat) (l0_10 : List Int) (a1 a2 : Int) (r : Bool) (w : World) (hr0_10 : Kd.C (Kd.int .i64) w A0_10 l0_10.length l0_10) (hc0_10 : l0_10.length ≤ c0_10) (h : bellwetherlaw21_SchedOwned.f k a0_0 a0_1 a0_2 a0_3 a0_4 a0_5 a0_6 a0_7 a0_8 a0_9 l0_10 a1 a2 = some r) :
    Calls Try.prog 4 #[.agg #[.int .i64 a0_0, .int .i64 a0_1, .int .i64 a0_2, .int .i64 a0_3, .int .i64 a0_4, .int .i64 a0_5, .int .i64 a0_6, .int .i64 a0_7, .int .i64 a0_8, .int .i64 a0_9, .slice A0_10 l0_10.length c0_10], .int .i64 a1, .int .i64 a2] w fun e w' => e = .returned (.bool r) ∧ Below w.heap.size w w' := by
  unfold bellwetherlaw21_SchedOwned.f at h
  obtain ⟨t, ht, h⟩ := Option.bind_eq_some_iff.mp h
  obtain ⟨L, hL, h⟩ := Option.bind_eq_some_iff.mp h
  obtain ⟨kn, hkn, h⟩ := Option.bind_eq_some_iff.mp h
  have hc : kn = true ∧ L = ownedL l0_10 a1 (if t == 0 then l0_10.length else 0) := by
    by_cases c : kn = true ∧ L = ownedL l0_10 a1 (if t == 0 then l0_10.length else 0)
    · exact c
    · rw [if_neg c] at h; exact absurd h (by simp)
  rw [if_pos hc] at h
  obtain rfl := Option.some.inj h
  obtain ⟨rfl, hLe⟩ := hc
  have hmax := Kd.C_max hr0_10
  have HP := Aside0.mk ht
  have HO := Aside0.mk hL
  have HKN := Aside0.mk hkn
  have HLE := Aside0.mk hLe
  clear h ht hL hkn hLe
  refine (callsIn_wide (n := 9)).1 ?_
  refine callsIn_of_wp_marks Try.func4 rfl trivial ?_ rfl
  simp only [Try.ntmps4, List.size_toArray, List.length_cons, List.length_nil, Nat.reduceAdd, Nat.reduceSub, Array.replicate_succ, Array.replicate_zero, List.push_toArray, List.append_toArray, List.nil_append, List.cons_append]
  have hC0 := blk_alloc (blk_alloc (blk_new w (Obj.cells #[.int .i64 a0_0, .int .i64 a0_1, .int .i64 a0_2, .int .i64 a0_3, .int .i64 a0_4, .int .i64 a0_5, .int .i64 a0_6, .int .i64 a0_7, .int .i64 a0_8, .int .i64 a0_9, .slice A0_10 l0_10.length c0_10] 24)) (Obj.cells #[.int .i64 a2] 3)) (Obj.cells #[.bool false] 4)
  have hC1 := blk_alloc (blk_new (w.alloc (Obj.cells #[.int .i64 a0_0, .int .i64 a0_1, .int .i64 a0_2, .int .i64 a0_3, .int .i64 a0_4, .int .i64 a0_5, .int .i64 a0_6, .int .i64 a0_7, .int .i64 a0_8, .int .i64 a0_9, .slice A0_10 l0_10.length c0_10] 24)) (Obj.cells #[.int .i64 a2] 3)) (Obj.cells #[.bool false] 4)
  have hC2 := blk_new ((w.alloc (Obj.cells #[.int .i64 a0_0, .int .i64 a0_1, .int .i64 a0_2, .int .i64 a0_3, .int .i64 a0_4, .int .i64 a0_5, .int .i64 a0_6, .int .i64 a0_7, .int .i64 a0_8, .int .i64 a0_9, .slice A0_10 l0_10.length c0_10] 24)).alloc (Obj.cells #[.int .i64 a2] 3)) (Obj.cells #[.bool false] 4)
  have hsz : (((w.alloc (Obj.cells #[.int .i64 a0_0, .int .i64 a0_1, .int .i64 a0_2, .int .i64 a0_3, .int .i64 a0_4, .int .i64 a0_5, .int .i64 a0_6, .int .i64 a0_7, .int .i64 a0_8, .int .i64 a0_9, .slice A0_10 l0_10.length c0_10] 24)).alloc (Obj.cells #[.int .i64 a2] 3)).alloc (Obj.cells #[.bool false] 4)).heap.size = w.heap.size + 1 + 1 + 1 := by simp only [World.size_alloc]
  have hB3 := below_alloc (below_alloc (below_alloc (Below.refl _ w) (Obj.cells #[.int .i64 a0_0, .int .i64 a0_1, .int .i64 a0_2, .int .i64 a0_3, .int .i64 a0_4, .int .i64 a0_5, .int .i64 a0_6, .int .i64 a0_7, .int .i64 a0_8, .int .i64 a0_9, .slice A0_10 l0_10.length c0_10] 24)) (Obj.cells #[.int .i64 a2] 3)) (Obj.cells #[.bool false] 4)
  simp only [World.size_alloc] at hC1 hC2
  have HC0 := Aside0.mk hC0
  have HC1 := Aside0.mk hC1
  have HC2 := Aside0.mk hC2
  have HSZ := Aside0.mk hsz
  have HB3 := Aside0.mk hB3
  clear hC0 hC1 hC2 hsz hB3
  gi_wp2_with fail
  generalize ((w.alloc (Obj.cells #[.int .i64 a0_0, .int .i64 a0_1, .int .i64 a0_2, .int .i64 a0_3, .int .i64 a0_4, .int .i64 a0_5, .int .i64 a0_6, .int .i64 a0_7, .int .i64 a0_8, .int .i64 a0_9, .slice A0_10 l0_10.length c0_10] 24)).alloc (Obj.cells #[.int .i64 a2] 3)).alloc (Obj.cells #[.bool false] 4) = w3 at HC0 HC1 HC2 HSZ HB3 ⊢
  refine ⟨trivial, callsIn_wide.2 ((bellwetherref21_Owned.calls k a0_0 a0_1 a0_2 a0_3 a0_4 a0_5 a0_6 a0_7 a0_8 a0_9 A0_10 c0_10 l0_10 a1 L w3 (Kd.C_below hr0_10 HB3.out) hc0_10 HO.out).mono ?_)⟩
  rintro e w4 ⟨v, rfl, ho, hb4⟩
  obtain ⟨AL, cL, rfl, hle, hin⟩ := Kd.R_reads ho
  have b0 := blk_below HC0.out hb4
  have b1 := blk_below HC1.out hb4
  have b2 := blk_below HC2.out hb4
  have HB4 := Aside0.mk (below_step HB3.out hb4)
  have hs4 : w.heap.size + 1 + 1 + 1 ≤ w4.heap.size := by have := HSZ.out; have := hb4.size; omega
  have HS4 := Aside0.mk hs4
  have HIN := Aside0.mk hin
  have HLC := Aside0.mk hle
  have HC0 := Aside0.mk (blk_alloc b0 (Obj.cells #[.slice AL L.length cL] 22))
  have HC1 := Aside0.mk (blk_alloc b1 (Obj.cells #[.slice AL L.length cL] 22))
  have HC2 := Aside0.mk (blk_alloc b2 (Obj.cells #[.slice AL L.length cL] 22))
  have HCL := Aside0.mk (blk_new w4 (Obj.cells #[.slice AL L.length cL] 22))
  have HB5 := Aside0.mk (below_alloc HB4.out (Obj.cells #[.slice AL L.length cL] 22))
  have HIN5 := Aside0.mk (Kd.C_alloc hin (Obj.cells #[.slice AL L.length cL] 22))
  have HS5 := Aside0.mk (World.size_alloc w4 (Obj.cells #[.slice AL L.length cL] 22))
  have hc0 := HC0.out
  obtain ⟨hcz_0, hcz_1, hcz_2, hcz_3, hcz_4, hcz_5, hcz_6, hcz_7, hcz_8, hcz_9, hcz_10⟩ := cells_11 hc0; obtain ⟨hfz_0, hfz_1, hfz_2, hfz_3, hfz_4, hfz_5, hfz_6, hfz_7, hfz_8, hfz_9, hfz_10⟩ := frozen_11 hc0
  clear b0 b1 b2 ho hb4 hle hin hs4 hc0
  gi_wp2_with fail
  generalize w4.alloc (Obj.cells #[.slice AL L.length cL] 22) = w5 at HC0 HC1 HC2 HCL HB5 HIN5 HS5 hcz_0 hcz_1 hcz_2 hcz_3 hcz_4 hcz_5 hcz_6 hcz_7 hcz_8 hcz_9 hcz_10 hfz_0 hfz_1 hfz_2 hfz_3 hfz_4 hfz_5 hfz_6 hfz_7 hfz_8 hfz_9 hfz_10 ⊢
  refine ⟨trivial, callsIn_wide.2 ((sched_Owned.calls k a0_0 a0_1 a0_2 a0_3 a0_4 a0_5 a0_6 a0_7 a0_8 a0_9 A0_10 c0_10 l0_10 a1 t w5 (Kd.C_below hr0_10 HB5.out) hc0_10 HP.out).mono ?_)⟩
  rintro e w6 ⟨B1, rfl, l1, l2, g1, g2, g3, hb6⟩
  clear hcz_0 hcz_1 hcz_2 hcz_3 hcz_4 hcz_5 hcz_6 hcz_7 hcz_8 hcz_9 hcz_10 hfz_0 hfz_1 hfz_2 hfz_3 hfz_4 hfz_5 hfz_6 hfz_7 hfz_8 hfz_9 hfz_10
  have HC0 := Aside0.mk (blk_below HC0.out hb6)
  have HC1 := Aside0.mk (blk_below HC1.out hb6)
  have HC2 := Aside0.mk (blk_below HC2.out hb6)
  have HCL := Aside0.mk (blk_below HCL.out hb6)
  have HB6 := Aside0.mk (below_step HB5.out hb6)
  have HIN6 := Aside0.mk (Kd.C_below HIN5.out hb6)
  have G1 := Aside0.mk g1
  have G2 := Aside0.mk g2
  have G3 := Aside0.mk g3
  have HL1 := Aside0.mk l1
  have HL2 := Aside0.mk l2
  clear g1 g2 g3 hb6 l1 l2
  have hfn := fun W => eq_fn_nil (P := Try.prog) Try.underlying31 (.func 54) #[] #[.pointer (some ⟨B1, 0, none⟩), .pointer (some ⟨w5.heap.size, 0, none⟩), .pointer (some ⟨w5.heap.size + 1, 0, none⟩)] W
  have HR := Aside0.mk hr0_10
  have HH := Aside0.mk hc0_10
  have HMX := Aside0.mk hmax
  clear hr0_10 hc0_10 hmax
  gi_wp2_with fail
  have HN7 := Aside0.mk (blk_new w6 (Obj.cells #[.int .i64 0] 3))
  have HB67 := Aside0.mk (below_alloc (Below.refl _ w6) (Obj.cells #[.int .i64 0] 3))
  have HS7 := Aside0.mk (World.size_alloc w6 (Obj.cells #[.int .i64 0] 3))
  clear hfn
  generalize w6.alloc (Obj.cells #[.int .i64 0] 3) = w7 at HN7 HB67 HS7 ⊢
  have HB7 := Aside0.mk (below_step HB6.out HB67.out)
  have s3 := HSZ.out
  have s4 := HS4.out
  have s5 := HS5.out
  have s7 := HS7.out
  have l1 := HL1.out
  have l2 := HL2.out
  have hr7 := Kd.C_below HR.out HB7.out
  have hmax := HMX.out
  refine wpIn_rangeFunc_ownG (w := w7) rfl (by omega) (gf := 54) (lb := #[.pointer (some ⟨B1, 0, none⟩), .pointer (some ⟨w5.heap.size, 0, none⟩), .pointer (some ⟨w5.heap.size + 1, 0, none⟩)]) rfl trivial (enters_of Try.func54 (by kernel_rfl) rfl)
    (sched_Owned1.stops (P := fun _ => True) 8 (by omega) l0_10 a1 (fun _ _ _ => trivial) (t == 0) A0_10 c0_10 (w5.heap.size + 1 + 1) (fun _ => False) w7 HH.out (by omega) B1 w5.heap.size (w5.heap.size + 1) (by omega) (by omega) (by omega) (fun h => h) (by omega)
      ((HB67.out.cell (p := ⟨B1, 0, none⟩) l1).trans G1.out) ((HB67.out.cell (p := ⟨w5.heap.size, 10, none⟩) (by show w5.heap.size < _; omega)).trans G2.out) ((HB67.out.cell (p := ⟨w5.heap.size + 1, 0, none⟩) l2).trans G3.out)
      (fun j hj => by
        obtain ⟨ad, e, hx⟩ := Kd.at_int hr7 (j : Int) (by omega) (by omega)
        obtain ⟨ad', e', hx'⟩ := Kd.at_int HR.out (j : Int) (by omega) (by omega)
        rw [e] at e'
        obtain rfl := Option.some.inj e'
        rw [Int.toNat_natCast] at hx hx'
        have hlt : (ad.add j).block < w.heap.size := by
          unfold World.cell? at hx'
          cases hq : w.heap[(ad.add j).block]? with
          | none => rw [hq] at hx'; simp at hx'
          | some o => exact blk_lt hq
        exact ⟨ad, e, by omega, fun h => h, hx⟩)) KeptBut.trans (fun W l o o' hl _ _ _ => KeptBut.put W l o' (by omega)) (Below.refl _ _) (fun _ => rfl)
    (fun pre W => ((pre.map (·.1) = L.take pre.length ∧ pre.length ≤ L.length) ∧ W.cell? ⟨w6.heap.size, 0, none⟩ = some (.int .i64 (pre.length : Int)) ∧ W.frozen? ⟨w6.heap.size, 0, none⟩ = false) ∧ Below w6.heap.size w6 W)
    (fun c pre W => (c = .ret ∧ ¬ ∃ r, L = pre.map (·.1) ++ r) ∨ ((c = .exit 0 ∧ pre.length ≤ L.length ∧ (pre.length : Int) = a2) ∧ W.cell? ⟨w6.heap.size, 0, none⟩ = some (.int .i64 (pre.length : Int)) ∧ Below w6.heap.size w6 W))
    (OwnFrom.and (Own.from (fun s A B row hs hg hr => ⟨hs.1, cell_kept hs.2.1 hg hr, (frozen_kept hs.2.1 hg hr).trans hs.2.2⟩) _) (ownFrom_below (Nat.le_refl _) (by omega)))
    (fun c s A B row hs hg hr => by
      rcases hs with h | ⟨h1, h2, h3⟩
      · exact .inl h
      · exact .inr ⟨h1, cell_kept h2 hg (fun r e => (hr r e).2), ownFrom_below (β := Unit) (Nat.le_refl _) (by omega) () A B row h3 hg hr⟩)
    ⟨⟨⟨rfl, Nat.zero_le _⟩, (blk_cell HN7.out 0).trans rfl, blk_frozen HN7.out 0⟩, HB67.out⟩
    (fun x => { tmps := #[.agg #[.int .i64 a0_0, .int .i64 a0_1, .int .i64 a0_2, .int .i64 a0_3, .int .i64 a0_4, .int .i64 a0_5, .int .i64 a0_6, .int .i64 a0_7, .int .i64 a0_8, .int .i64 a0_9, .slice A0_10 l0_10.length c0_10], .int .i64 a1, .int .i64 a2, .pointer (some ⟨w.heap.size, 0, none⟩), undef, .pointer (some ⟨w.heap.size + 1, 0, none⟩), .pointer (some ⟨w.heap.size + 1 + 1, 0, none⟩), .pointer (some ⟨w4.heap.size, 0, none⟩), .func (.func 54) #[] #[.pointer (some ⟨B1, 0, none⟩), .pointer (some ⟨w5.heap.size, 0, none⟩), .pointer (some ⟨w5.heap.size + 1, 0, none⟩)], .pointer (some ⟨w6.heap.size, 0, none⟩), .int .i64 x.1, .agg #[.int .i64 a0_0, .int .i64 a0_1, .int .i64 a0_2, .int .i64 a0_3, .int .i64 a0_4, .int .i64 a0_5, .int .i64 a0_6, .int .i64 a0_7, .int .i64 a0_8, .int .i64 a0_9, .slice A0_10 l0_10.length c0_10], .int .i64 a1, .slice AL L.length cL, .agg #[.int .i64 a0_0, .int .i64 a0_1, .int .i64 a0_2, .int .i64 a0_3, .int .i64 a0_4, .int .i64 a0_5, .int .i64 a0_6, .int .i64 a0_7, .int .i64 a0_8, .int .i64 a0_9, .slice A0_10 l0_10.length c0_10], .int .i64 a1, .func (.func 54) #[] #[.pointer (some ⟨B1, 0, none⟩), .pointer (some ⟨w5.heap.size, 0, none⟩), .pointer (some ⟨w5.heap.size + 1, 0, none⟩)], .func (.func 54) #[] #[.pointer (some ⟨B1, 0, none⟩), .pointer (some ⟨w5.heap.size, 0, none⟩), .pointer (some ⟨w5.heap.size + 1, 0, none⟩)], .bool false, .func (.func 54) #[] #[.pointer (some ⟨B1, 0, none⟩), .pointer (some ⟨w5.heap.size, 0, none⟩), .pointer (some ⟨w5.heap.size + 1, 0, none⟩)], .int .i64 x.1, undef, undef, undef, undef, undef, undef, undef, undef, undef, undef, undef, undef, undef, undef, undef, undef, undef, undef, undef, undef, undef, undef, undef, undef, undef, undef, undef, undef, undef], defers := [] }) ?assign ?body ?done ?stop
  case assign =>
    intro l x W K hK
    clear s3 s4 s5 s7 l1 l2 hmax
    gi_wp2
    exact hK
  case body =>
    rintro lp pre x W ⟨⟨⟨hp1, hp2⟩, hcn, hfn⟩, hB⟩ _
    have hcS : W.cell? ⟨w.heap.size + 1, 0, none⟩ = some (.int .i64 a2) := (hB.cell (p := ⟨w.heap.size + 1, 0, none⟩) (by show w.heap.size + 1 < _; omega)).trans ((blk_cell HC1.out 0).trans rfl)
    have hcL : W.cell? ⟨w4.heap.size, 0, none⟩ = some (.slice AL L.length cL) := (hB.cell (p := ⟨w4.heap.size, 0, none⟩) (by show w4.heap.size < _; omega)).trans ((blk_cell HCL.out 0).trans rfl)
    have hfR : W.frozen? ⟨w.heap.size + 1 + 1, 0, none⟩ = false := (hB.frozen (p := ⟨w.heap.size + 1 + 1, 0, none⟩) (by show w.heap.size + 1 + 1 < _; omega)).trans (blk_frozen HC2.out 0)
    have hcR : W.cell? ⟨w.heap.size + 1 + 1, 0, none⟩ = some (.bool false) := (hB.cell (p := ⟨w.heap.size + 1 + 1, 0, none⟩) (by show w.heap.size + 1 + 1 < _; omega)).trans ((blk_cell HC2.out 0).trans rfl)
    have hLW := Kd.C_below HIN6.out hB
    have hLm := Kd.C_max hLW
    have hne1 : w.heap.size + 1 ≠ w6.heap.size := by omega
    have hne2 : w6.heap.size ≠ w.heap.size + 1 := by omega
    have hN6 : w5.heap.size + 1 + 1 ≤ w6.heap.size := by omega
    by_cases c1 : pre.length < L.length
    · obtain ⟨ad, rfl, hx⟩ := Kd.at_int hLW (pre.length : Int) (by omega) (by omega)
      rw [Int.toNat_natCast] at hx
      have c1d : decide (L.length ≤ pre.length) = false := decide_eq_false (by omega)
      have er : rd L (pre.length : Int) = L[pre.length] := by unfold rd; simp [List.getD_eq_getElem?_getD, c1]
      have HN6 := Aside0.mk hN6
      have HER := Aside0.mk er
      have HP1 := Aside0.mk hp1
      clear hLW s3 s4 s5 s7 l1 l2 hmax hr7 er hp1 hN6
      by_cases c2 : x.1 = rd L (pre.length : Int)
      · have c2d : (x.1 == rd L (pre.length : Int)) = true := beq_iff_eq.mpr c2
        have c2e : (x.1 != rd L (pre.length : Int)) = false := bne_eq_false_iff_eq.mpr c2
        have HX := Aside0.mk c2
        clear c2
        by_cases c3 : (pre.length : Int) + 1 = a2
        · have c3d : ((pre.length : Int) + 1 == a2) = true := beq_iff_eq.mpr c3
          have HC3 := Aside0.mk c3
          clear c3
          gi_wp2
          exact ⟨(KeepsOthers.setCell _ _ _).from _, .inr ⟨⟨rfl, by simp; omega, by have := HC3.out; simp; omega⟩, (World.cell?_setCell_same' _ _ _ (by rw [hcn]; rfl)).trans (by simp), hB.setCell (p := ⟨w6.heap.size, 0, none⟩) (Nat.le_refl _) _⟩⟩
        · have c3d : ((pre.length : Int) + 1 == a2) = false := beq_eq_false_iff_ne.mpr c3
          clear c3
          gi_wp2
          have em : (pre ++ [x]).map (·.1) = L.take (pre ++ [x]).length := by
            rw [List.map_append, HP1.out, List.length_append, show pre.length + [x].length = pre.length + 1 from rfl, List.take_add_one, List.getElem?_eq_getElem c1, ← HER.out, ← HX.out]
            rfl
          exact ⟨(KeepsOthers.setCell _ _ _).from _, KeptBut.over _ _ HN6.out, ⟨⟨em, by simp; omega⟩, (World.cell?_setCell_same' _ _ _ (by rw [hcn]; rfl)).trans (by simp), by rw [World.frozen?_setCell]; exact hfn⟩, hB.setCell (p := ⟨w6.heap.size, 0, none⟩) (Nat.le_refl _) _⟩
      · have c2d : (x.1 == rd L (pre.length : Int)) = false := beq_eq_false_iff_ne.mpr c2
        have c2e : (x.1 != rd L (pre.length : Int)) = true := bne_iff_ne.mpr c2
        have HX := Aside0.mk c2
        clear c2
        gi_wp2
        refine ⟨(KeepsOthers.setCell _ _ _).from _, .inl ⟨rfl, ?_⟩⟩
        rintro ⟨r, hr⟩
        refine HX.out ?_
        have h1 : L[pre.length]? = some x.1 := by rw [hr]; simp
        rw [List.getElem?_eq_getElem c1] at h1
        rw [HER.out]
        exact (Option.some.inj h1).symm
    · have c1d : decide (L.length ≤ pre.length) = true := decide_eq_true (by omega)
      have HX := Aside0.mk c1
      clear hLW s3 s4 s5 s7 l1 l2 hmax hr7 hp1 hN6 c1
      gi_wp2
      refine ⟨(KeepsOthers.setCell _ _ _).from _, .inl ⟨rfl, ?_⟩⟩
      rintro ⟨r, hr⟩
      have := congrArg List.length hr
      have := HX.out
      simp at *
      omega
  case done =>
    rintro D ys W hD hys ⟨⟨⟨hp1, hp2⟩, hcn, hfn⟩, hB⟩ hK
    have hlen : ys.length = L.length := by
      have hv := ups_val l0_10 a1 (P := fun _ => True) (fun _ _ _ => trivial) (if t == 0 then l0_10.length else 0) (by split <;> omega)
      rw [← hys, ← HLE.out] at hv
      rw [← hv, List.length_map]
    rw [hlen] at hcn
    have hcS : W.cell? ⟨w.heap.size + 1, 0, none⟩ = some (.int .i64 a2) := (hB.cell (p := ⟨w.heap.size + 1, 0, none⟩) (by show w.heap.size + 1 < _; omega)).trans ((blk_cell HC1.out 0).trans rfl)
    have hcL : W.cell? ⟨w4.heap.size, 0, none⟩ = some (.slice AL L.length cL) := (hB.cell (p := ⟨w4.heap.size, 0, none⟩) (by show w4.heap.size < _; omega)).trans ((blk_cell HCL.out 0).trans rfl)
    have hfR : W.frozen? ⟨w.heap.size + 1 + 1, 0, none⟩ = false := (hB.frozen (p := ⟨w.heap.size + 1 + 1, 0, none⟩) (by show w.heap.size + 1 + 1 < _; omega)).trans (blk_frozen HC2.out 0)
    have hcR : W.cell? ⟨w.heap.size + 1 + 1, 0, none⟩ = some (.bool false) := (hB.cell (p := ⟨w.heap.size + 1 + 1, 0, none⟩) (by show w.heap.size + 1 + 1 < _; omega)).trans ((blk_cell HC2.out 0).trans rfl)
    have hRW : w.heap.size + 1 + 1 < W.heap.size := by have := hB.size; omega
    have hD2 : w.heap.size ≤ D := by omega
    have HBW := Aside0.mk (below_step HB6.out hB)
    clear hys hp1 hp2 hlen s3 s4 s5 s7 l1 l2 hmax hr7
    gi_wp2_with fail
    refine ⟨trivial, callsIn_wide.2 ((bellwetherlaw21_known.calls k true W HKN.out).mono ?_)⟩
    rintro e W1 ⟨rfl, hb1⟩
    have hcR1 : W1.cell? ⟨w.heap.size + 1 + 1, 0, none⟩ = some (.bool false) := (hb1.cell (p := ⟨w.heap.size + 1 + 1, 0, none⟩) hRW).trans hcR
    have hfR1 : W1.frozen? ⟨w.heap.size + 1 + 1, 0, none⟩ = false := (hb1.frozen (p := ⟨w.heap.size + 1 + 1, 0, none⟩) hRW).trans hfR
    have hK1 := blk_below hK hb1
    have HBW1 := Aside0.mk (below_step HBW.out hb1)
    clear hb1
    gi_wp2
    have hK' := (KeepsOthers.setCell W1 ⟨w.heap.size + 1 + 1, 0, none⟩ (.bool true)).same D _ hK1 rfl
    refine ⟨by simp, .inl ⟨_, _, rfl, run_takeDeferred hK', ?_⟩⟩
    have hc5 := cell_kept (World.cell?_setCell_same' W1 ⟨w.heap.size + 1 + 1, 0, none⟩ (.bool true) (by rw [hcR1]; rfl)) (grownBy_putObj' _ D (.deferred none)) (fun r e => by cases e; exact ⟨_, hK', rfl⟩)
    refine ⟨.bool true, ?_, rfl, (HBW1.out.setCell (p := ⟨w.heap.size + 1 + 1, 0, none⟩) (by show w.heap.size ≤ w.heap.size + 1 + 1; omega) _).trans (belowK_b (w := w) (Nat.le_refl _) _ D _ _ hD2 hK' rfl rfl)⟩
    simp [results, Try.f4, go_sem, hc5]
  case stop =>
    rintro D c pre W hD ⟨kk, hk, hpre⟩ hx hK
    rcases hx with ⟨rfl, hne⟩ | ⟨⟨rfl, h1, h2⟩, hcn, hB⟩
    · refine (hne ?_).elim
      obtain ⟨r, hr⟩ := ownedL_more l0_10 a1 kk ((if t == 0 then l0_10.length else 0) - kk)
      rw [show kk + ((if t == 0 then l0_10.length else 0) - kk) = (if t == 0 then l0_10.length else 0) from by omega] at hr
      have hv := ups_val l0_10 a1 (P := fun _ => True) (fun _ _ _ => trivial) kk (by revert hk; split <;> omega)
      rw [← hpre] at hv
      exact ⟨r, by rw [HLE.out, hr, hv]⟩
    have hcS : W.cell? ⟨w.heap.size + 1, 0, none⟩ = some (.int .i64 a2) := (hB.cell (p := ⟨w.heap.size + 1, 0, none⟩) (by show w.heap.size + 1 < _; omega)).trans ((blk_cell HC1.out 0).trans rfl)
    have hcL : W.cell? ⟨w4.heap.size, 0, none⟩ = some (.slice AL L.length cL) := (hB.cell (p := ⟨w4.heap.size, 0, none⟩) (by show w4.heap.size < _; omega)).trans ((blk_cell HCL.out 0).trans rfl)
    have hfR : W.frozen? ⟨w.heap.size + 1 + 1, 0, none⟩ = false := (hB.frozen (p := ⟨w.heap.size + 1 + 1, 0, none⟩) (by show w.heap.size + 1 + 1 < _; omega)).trans (blk_frozen HC2.out 0)
    have hcR : W.cell? ⟨w.heap.size + 1 + 1, 0, none⟩ = some (.bool false) := (hB.cell (p := ⟨w.heap.size + 1 + 1, 0, none⟩) (by show w.heap.size + 1 + 1 < _; omega)).trans ((blk_cell HC2.out 0).trans rfl)
    have hRW : w.heap.size + 1 + 1 < W.heap.size := by have := hB.size; omega
    have hD2 : w.heap.size ≤ D := by omega
    have HBW := Aside0.mk (below_step HB6.out hB)
    have e2 : ((pre.length : Int) == a2) = true := beq_iff_eq.mpr h2
    by_cases c1 : pre.length = L.length
    · rw [c1] at hcn e2
      clear hpre h1 h2 s3 s4 s5 s7 l1 l2 hmax hr7 c1 hk
      gi_wp2_with fail
      refine ⟨trivial, callsIn_wide.2 ((bellwetherlaw21_known.calls k true W HKN.out).mono ?_)⟩
      rintro e W1 ⟨rfl, hb1⟩
      have hcR1 : W1.cell? ⟨w.heap.size + 1 + 1, 0, none⟩ = some (.bool false) := (hb1.cell (p := ⟨w.heap.size + 1 + 1, 0, none⟩) hRW).trans hcR
      have hfR1 : W1.frozen? ⟨w.heap.size + 1 + 1, 0, none⟩ = false := (hb1.frozen (p := ⟨w.heap.size + 1 + 1, 0, none⟩) hRW).trans hfR
      have hK1 := blk_below hK hb1
      have HBW1 := Aside0.mk (below_step HBW.out hb1)
      clear hb1
      gi_wp2
      have hK' := (KeepsOthers.setCell W1 ⟨w.heap.size + 1 + 1, 0, none⟩ (.bool true)).same D _ hK1 rfl
      refine ⟨by simp, .inl ⟨_, _, rfl, run_takeDeferred hK', ?_⟩⟩
      have hc5 := cell_kept (World.cell?_setCell_same' W1 ⟨w.heap.size + 1 + 1, 0, none⟩ (.bool true) (by rw [hcR1]; rfl)) (grownBy_putObj' _ D (.deferred none)) (fun r e => by cases e; exact ⟨_, hK', rfl⟩)
      refine ⟨.bool true, ?_, rfl, (HBW1.out.setCell (p := ⟨w.heap.size + 1 + 1, 0, none⟩) (by show w.heap.size ≤ w.heap.size + 1 + 1; omega) _).trans (belowK_b (w := w) (Nat.le_refl _) _ D _ _ hD2 hK' rfl rfl)⟩
      simp [results, Try.f4, go_sem, hc5]
    · have e1 : (pre.length == L.length) = false := beq_eq_false_iff_ne.mpr c1
      have e3 : ((pre.length : Int) == (L.length : Int)) = false := beq_eq_false_iff_ne.mpr (by omega)
      clear hpre h1 h2 s3 s4 s5 s7 l1 l2 hmax hr7 c1 hk
      gi_wp2_with fail
      refine ⟨trivial, callsIn_wide.2 ((bellwetherlaw21_known.calls k true W HKN.out).mono ?_)⟩
      rintro e W1 ⟨rfl, hb1⟩
      have hcR1 : W1.cell? ⟨w.heap.size + 1 + 1, 0, none⟩ = some (.bool false) := (hb1.cell (p := ⟨w.heap.size + 1 + 1, 0, none⟩) hRW).trans hcR
      have hfR1 : W1.frozen? ⟨w.heap.size + 1 + 1, 0, none⟩ = false := (hb1.frozen (p := ⟨w.heap.size + 1 + 1, 0, none⟩) hRW).trans hfR
      have hK1 := blk_below hK hb1
      have HBW1 := Aside0.mk (below_step HBW.out hb1)
      clear hb1
      gi_wp2
      have hK' := (KeepsOthers.setCell W1 ⟨w.heap.size + 1 + 1, 0, none⟩ (.bool true)).same D _ hK1 rfl
      refine ⟨by simp, .inl ⟨_, _, rfl, run_takeDeferred hK', ?_⟩⟩
      have hc5 := cell_kept (World.cell?_setCell_same' W1 ⟨w.heap.size + 1 + 1, 0, none⟩ (.bool true) (by rw [hcR1]; rfl)) (grownBy_putObj' _ D (.deferred none)) (fun r e => by cases e; exact ⟨_, hK', rfl⟩)
      refine ⟨.bool true, ?_, rfl, (HBW1.out.setCell (p := ⟨w.heap.size + 1 + 1, 0, none⟩) (by show w.heap.size ≤ w.heap.size + 1 + 1; omega) _).trans (belowK_b (w := w) (Nat.le_refl _) _ D _ _ hD2 hK' rfl rfl)⟩
      simp [results, Try.f4, go_sem, hc5]
end
end Go.Proofs.Ytjfcedhjmmnofaa.Gn
