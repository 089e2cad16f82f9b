import Derived.Test.YthdoghhmooodjaaZScriptCutsGn0
import Derived.Test.YthdoghhmooodjaaZScriptCutsGn3
import Derived.Test.YthdoghhmooodjaaZScriptCutsGn1
import Derived.Test.YthdoghhmooodjaaZScriptCutsRingFacts0
namespace Go.Proofs.Ythdoghhmooodjaa.Facts
open Go.RowKit Go.Proofs.Ythdoghhmooodjaa.Gn Go.Proofs.YthdoghhmooodjaaW.PrintWords Go.Proofs.YthdoghhmooodjaaW.PrintLast
set_option linter.unusedVariables false
set_option linter.unusedSimpArgs false
def inB (x lo hi : Int) : Bool := decide (lo ≤ x ∧ x ≤ hi)
theorem inB_true {x lo hi : Int} : inB x lo hi = true ↔ lo ≤ x ∧ x ≤ hi := by simp [inB]
theorem has_eq (x lo hi : Int) : conf_span_has.f lo hi x = some (inB x lo hi) := by
  unfold conf_span_has.f inB
  split
  · congr 1; rw [Bool.eq_iff_iff]; simp; omega
  · rw [decide_eq_false (by omega)]
def nodesB (c0 c1 : Int) : Bool := inB c0 4 13 && (inB c1 0 4 && decide (c0 > 3 * c1))
def numbersB (c1 c2 c3 c4 c5 c6 c7 c8 c9 : Int) : Bool :=
  inB c3 (6 * (c1 + 1) * c2 + 1) 400 && (inB c4 1 64 && (inB c5 0 (c4 - 1) && (inB c6 0 30000 && (inB c7 1 30000 && (inB c8 2 250 && inB c9 1 100)))))
/-- Is a configuration plain (0), or why not. -/
def plainE (c0 c1 c2 c3 c4 c5 c6 c7 c8 c9 : Int) (l : List Int) : Int :=
  if nodesB c0 c1 = true then (if inB c2 1 4 = true then (if numbersB c1 c2 c3 c4 c5 c6 c7 c8 c9 = true then (if tblB c0 l = true then 0 else 11) else 8) else 10) else 7
theorem rd71 (xs : List S95) (i : Nat) (h : i < xs.length) : rd_T95 xs (i : Int) = xs[i] := by
  unfold rd_T95
  simp [List.getD_eq_getElem?_getD, h]
theorem numbers_loop (xs : List S95) (hx : xs.length ≤ 1000) : ∀ (d k i : Nat), i + d = xs.length → d < k → conf_numbers.l0 k xs (xs.length : Int) (i : Int) = some ((xs.drop i).all fun x => inB x.f0 x.f1.f0 x.f1.f1)
  | 0, k, i, h, hk => by
    obtain ⟨k, rfl⟩ : ∃ m, k = m + 1 := ⟨k - 1, by omega⟩
    simp only [conf_numbers.l0]
    rw [if_neg (by omega), List.drop_of_length_le (by omega)]
    rfl
  | d + 1, k, i, h, hk => by
    obtain ⟨k, rfl⟩ : ∃ m, k = m + 1 := ⟨k - 1, by omega⟩
    have hi : i < xs.length := by omega
    simp only [conf_numbers.l0]
    rw [if_pos (by omega), if_pos (by omega), if_pos (by omega), has_eq, Option.bind_some, rd71 xs i hi, List.drop_eq_getElem_cons hi, List.all_cons]
    cases hb : inB xs[i].f0 xs[i].f1.f0 xs[i].f1.f1 with
    | false => simp
    | true =>
      rw [if_pos rfl, show wrap64 ((i : Int) + 1) = ((i + 1 : Nat) : Int) from by unfold wrap64; omega, numbers_loop xs hx d k (i + 1) (by omega) (by omega)]
      simp
theorem numbers_eq (k : Nat) (hk : 8 ≤ k) {c0 c1 c2 c3 c4 c5 c6 c7 c8 c9 : Int} {l : List Int} (h1 : 0 ≤ c1 ∧ c1 ≤ 4) (h2 : 1 ≤ c2 ∧ c2 ≤ 4) : conf_numbers.f k c0 c1 c2 c3 c4 c5 c6 c7 c8 c9 l = some (numbersB c1 c2 c3 c4 c5 c6 c7 c8 c9) := by
  have e1 : wrap64 (c1 + 1) = c1 + 1 := w64 (by omega)
  have e2 : wrap64 (6 * (c1 + 1)) = 6 * (c1 + 1) := w64 (by omega)
  have hm : 0 ≤ 6 * (c1 + 1) * c2 ∧ 6 * (c1 + 1) * c2 ≤ 120 := by
    have a : 6 * (c1 + 1) * c2 ≤ 30 * c2 := Int.mul_le_mul_of_nonneg_right (by omega) (by omega)
    have b : 0 ≤ 6 * (c1 + 1) * c2 := Int.mul_nonneg (by omega) (by omega)
    omega
  have e3 : wrap64 (6 * (c1 + 1) * c2) = 6 * (c1 + 1) * c2 := w64 (by omega)
  have e4 : wrap64 (6 * (c1 + 1) * c2 + 1) = 6 * (c1 + 1) * c2 + 1 := w64 (by omega)
  unfold conf_numbers.f
  rw [e1, e2, e3, e4, Option.bind_some]
  refine (numbers_loop _ (by simp) 7 k 0 rfl (by omega)).trans ?_
  simp only [List.drop_zero, List.all_cons, List.all_nil, Bool.and_true, numbersB]
  congr 2
  cases h4 : inB c4 1 64 with
  | false => simp
  | true =>
    have := inB_true.1 h4
    rw [show wrap64 (c4 - 1) = c4 - 1 from w64 (by omega)]
theorem plain_eq (k : Nat) (hk : 8 ≤ k) (c0 c1 c2 c3 c4 c5 c6 c7 c8 c9 : Int) (l : List Int) : conf_Plain.f k c0 c1 c2 c3 c4 c5 c6 c7 c8 c9 l = some (plainE c0 c1 c2 c3 c4 c5 c6 c7 c8 c9 l) := by
  unfold conf_Plain.f plainE nodesB
  have hn : conf_nodes.f c0 c1 c2 c3 c4 c5 c6 c7 c8 c9 l = some (inB c0 4 13 && (inB c1 0 4 && decide (c0 > 3 * c1))) := by
    unfold conf_nodes.f
    simp only [has_eq, Option.bind_some]
    cases inB c0 4 13 with
    | false => rfl
    | true =>
      cases h1 : inB c1 0 4 with
      | false => rfl
      | true =>
        have := inB_true.1 h1
        rw [show wrap64 (3 * c1) = 3 * c1 from w64 (by omega)]
        rfl
  rw [hn, Option.bind_some]
  cases h0 : (inB c0 4 13 && (inB c1 0 4 && decide (c0 > 3 * c1))) with
  | false => rfl
  | true =>
    rw [if_pos rfl, if_pos rfl, has_eq, Option.bind_some]
    simp only [Bool.and_eq_true] at h0
    have g0 := inB_true.1 h0.1
    have g1 := inB_true.1 h0.2.1
    cases h2 : inB c2 1 4 with
    | false => rfl
    | true =>
      rw [if_pos rfl, if_pos rfl, numbers_eq k hk g1 (inB_true.1 h2), Option.bind_some]
      cases numbersB c1 c2 c3 c4 c5 c6 c7 c8 c9 with
      | false => rfl
      | true =>
        rw [if_pos rfl, if_pos rfl]
        unfold conf_table.f
        rw [if_pos (by omega), Option.bind_some]
        cases tblB c0 l <;> rfl
theorem tblCnt_mem (l : List Int) (i : Nat) : tblCnt l i ≠ 0 ↔ (i : Int) ∈ l := by
  unfold tblCnt
  constructor
  · intro h
    obtain ⟨x, hx⟩ : ∃ x, x ∈ l.filter fun n => n == (i : Int) := by
      cases he : l.filter fun n => n == (i : Int) with
      | nil => simp [he] at h
      | cons a b => exact ⟨a, by simp⟩
    simp at hx
    exact hx.2 ▸ hx.1
  · intro h
    have : (i : Int) ∈ l.filter fun n => n == (i : Int) := by simp [h]
    have := List.length_pos_of_mem this
    omega
section
variable (c0 c1 c2 c3 c4 c5 c6 c7 c8 c9 : Int) (l : List Int)
end
end Go.Proofs.Ythdoghhmooodjaa.Facts
