import Derived.Test.YtjfcedhjmmnofaaZSchedOneStmtSchedOne
import Derived.Test.YtjfcedhjmmnofaaZSchedOneDueFacts
namespace Go.Proofs.Ytjfcedhjmmnofaa.Pure
open Go.RowKit Go.Proofs.Ytjfcedhjmmnofaa.Gn Go.Proofs.YtjfcedhjmmnofaaW.PrintWords Go.Proofs.YtjfcedhjmmnofaaW.PrintLast Go.Proofs.Ytjfcedhjmmnofaa.Facts Go.Proofs.Ytjfcedhjmmnofaa.Opens
theorem slotV_in {c6 c7 e : Int} {n q : Nat} (h7 : 1 ≤ c7) (hq : q < n) (h : c6 + (q : Int) * c7 ≤ e ∧ e < c6 + (q : Int) * c7 + c7) : slotV c6 c7 n e = q := by
  have : 0 ≤ (q : Int) * c7 := Int.mul_nonneg (by omega) (by omega)
  have e1 : (e - c6) / c7 = q := by
    refine Int.le_antisymm ?_ (Int.le_ediv_of_mul_le (by omega) (by omega))
    have := Int.ediv_lt_of_lt_mul (a := e - c6) (b := (q : Int) + 1) (c := c7) (by omega) (by rw [Int.add_mul, Int.one_mul]; omega)
    omega
  unfold slotV
  rw [if_neg (by omega), e1, if_neg (by omega)]
theorem slotV_cases {c6 c7 : Int} (n : Nat) (h7 : 1 ≤ c7) (e : Int) : (slotV c6 c7 n e = -1 ∧ (e < c6 ∨ c6 + (n : Int) * c7 ≤ e)) ∨ ∃ q : Nat, slotV c6 c7 n e = q ∧ q < n ∧ c6 + (q : Int) * c7 ≤ e ∧ e < c6 + (q : Int) * c7 + c7 := by
  unfold slotV
  by_cases a : e < c6
  · rw [if_pos a]; exact Or.inl ⟨rfl, Or.inl a⟩
  · rw [if_neg a]
    have q0 : 0 ≤ (e - c6) / c7 := Int.ediv_nonneg (by omega) (by omega)
    have qb := quot_bd (e := e - c6) h7
    by_cases b : (e - c6) / c7 ≥ n
    · rw [if_pos b]
      have := mul_mono (c := c7) (show (n : Int) ≤ (e - c6) / c7 by omega) (by omega)
      exact Or.inl ⟨rfl, Or.inr (by omega)⟩
    · rw [if_neg b]
      obtain ⟨q, hq⟩ := Int.eq_ofNat_of_zero_le q0
      rw [hq] at qb b ⊢
      rw [Int.add_mul, Int.one_mul] at qb
      exact Or.inr ⟨q, rfl, by omega, by omega, by omega⟩
theorem SchedOne : Gn.SchedOne.Pure := by
  intro c e _ he
  refine ⟨1000, ?_⟩
  have hw := wf_i64 he
  unfold bellwetherlaw21_SchedOne.f
  rw [ref_plain_eq _ _ _ _ _ _ _ _ _ _ _ 1000 (by omega), Option.bind_some]
  by_cases hp : plainE c.f0 c.f1 c.f2 c.f3 c.f4 c.f5 c.f6 c.f7 c.f8 c.f9 c.f10 = 0
  · have h := plain_iff.1 hp
    have h6 := h.o
    have h7 := h.s
    have hl := h.len
    have be := mul_bd (x := (c.f10.length : Int)) (y := c.f7) (a := 32) (b := 30000) ⟨by omega, by omega⟩ ⟨by omega, by omega⟩
    rw [if_pos hp, slot_eq _ _ _ _ _ _ _ _ _ _ _ _ hw 1000 (by omega), Option.bind_some, if_pos hp, w64 (a := (c.f10.length : Int) * c.f7) (by omega), w64 (a := c.f6 + (c.f10.length : Int) * c.f7) (by omega)]
    rcases slotV_cases (c6 := c.f6) (c7 := c.f7) c.f10.length (by omega) e with ⟨hs, hh⟩ | ⟨q, hs, hq, q1, q2⟩
    · have hj : bellwetherlaw21_SchedOne.j0 1000 e (-1) (decide ((-1 : Int) ≥ (c.f10.length : Int))) c.f0 c.f1 c.f2 c.f3 c.f4 c.f5 c.f6 c.f7 c.f8 c.f9 c.f10 = some true := by
        rw [decide_eq_false (by omega), bellwetherlaw21_SchedOne.j0, if_neg (by decide), if_pos (by decide), known21 999 (by omega)]
        rfl
      have a1 : ¬ ((-1 : Int) ≥ 0) := by decide
      have a2 : ¬ ((-1 : Int) < -1) := by decide
      rw [hs]
      by_cases a : e ≥ c.f6
      · have b : ¬ e < c.f6 + (c.f10.length : Int) * c.f7 := by omega
        rw [if_pos a, if_neg a1, if_neg b, if_neg a2]
        exact hj
      · rw [if_neg a, if_neg a1, if_neg a2]
        exact hj
    · have hn := h.n
      have bq := begin_bd h (i := (q : Int)) ⟨by omega, by omega⟩
      have top : (q : Int) * c.f7 + c.f7 ≤ (c.f10.length : Int) * c.f7 := by
        have := Int.mul_le_mul_of_nonneg_right (show (q : Int) + 1 ≤ (c.f10.length : Int) by omega) (show 0 ≤ c.f7 by omega)
        rw [Int.add_mul, Int.one_mul] at this
        exact this
      have a : e ≥ c.f6 := by omega
      have a1 : (q : Int) ≥ 0 := by omega
      have a2 : ¬ (q : Int) < -1 := by omega
      have b : e < c.f6 + (c.f10.length : Int) * c.f7 := by omega
      have hc : plainE c.f0 c.f1 c.f2 c.f3 c.f4 c.f5 c.f6 c.f7 c.f8 c.f9 c.f10 = 0 ∧ 0 ≤ (q : Int) ∧ (q : Int) < c.f10.length := ⟨hp, by omega, by omega⟩
      have ho := rd_owner _ _ _ _ _ _ _ _ _ _ _ h hc.2
      have s1 : slotV c.f6 c.f7 c.f10.length (c.f6 + (q : Int) * c.f7) = q := slotV_in (by omega) hq ⟨by omega, by omega⟩
      have s2 : slotV c.f6 c.f7 c.f10.length (c.f6 + (q : Int) * c.f7 - 1) = (q : Int) - 1 := by
        cases q with
        | zero =>
          unfold slotV
          rw [if_pos (by rw [show ((0 : Nat) : Int) = 0 from rfl, Int.zero_mul]; omega)]
          rfl
        | succ q =>
          have e1 : ((q + 1 : Nat) : Int) * c.f7 = (q : Int) * c.f7 + c.f7 := by push_cast; rw [Int.add_mul, Int.one_mul]
          rw [slotV_in (q := q) (by omega) (by omega) (by rw [e1]; omega)]
          omega
      rw [hs, if_pos a, if_pos a1, if_pos b, if_neg a2, decide_eq_false (by omega), bellwetherlaw21_SchedOne.j0, if_neg (by decide), if_neg (by omega), owner_eq _ _ _ _ _ _ _ _ _ _ _ _ 999 (by omega), Option.bind_some]
      unfold ownerV
      rw [if_pos hc, w64 (a := e - c.f6) (by omega), w64 (a := (q : Int) * c.f7) (by omega), w64 (a := e - c.f6 - (q : Int) * c.f7) (by omega), if_pos (by omega), if_pos (by omega), if_pos ho.1, if_pos ho.2, show e - (e - c.f6 - (q : Int) * c.f7) = c.f6 + (q : Int) * c.f7 from by omega, w64 (a := c.f6 + (q : Int) * c.f7) (by omega), w64 (a := c.f6 + (q : Int) * c.f7 - 1) (by omega), slot_eq _ _ _ _ _ _ _ _ _ _ _ _ (by omega) 999 (by omega), Option.bind_some, if_pos hp, s1, if_pos rfl, slot_eq _ _ _ _ _ _ _ _ _ _ _ _ (by omega) 999 (by omega), Option.bind_some, if_pos hp, s2, w64 (a := (q : Int) - 1) (by omega), if_pos rfl, known21 999 (by omega)]
      rfl
  · rw [if_neg hp, slot_eq _ _ _ _ _ _ _ _ _ _ _ _ hw 1000 (by omega), Option.bind_some, if_neg hp, if_pos rfl, known21 1000 (by omega)]
    rfl
end Go.Proofs.Ytjfcedhjmmnofaa.Pure
