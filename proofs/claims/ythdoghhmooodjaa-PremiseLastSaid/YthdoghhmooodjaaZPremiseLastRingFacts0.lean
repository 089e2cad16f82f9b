import Derived.Test.YthdoghhmooodjaaZPremiseLastGn0
import Derived.Test.YthdoghhmooodjaaZPremiseLastGn3
import Derived.Test.YthdoghhmooodjaaZPremiseLastGn23
import Derived.Test.YthdoghhmooodjaaZPremiseLastGn4
import Derived.Test.YthdoghhmooodjaaZPremiseLastGn5
import Derived.Test.YthdoghhmooodjaaZPremiseLastGn6
import Derived.Test.YthdoghhmooodjaaZPremiseLastGn46
import Derived.Test.YthdoghhmooodjaaZPremiseLastGn49
import Derived.Test.YthdoghhmooodjaaZPremiseLastGn26
import Derived.Test.YthdoghhmooodjaaZPremiseLastGn27
import Derived.Test.YthdoghhmooodjaaZPremiseLastGn55
import Derived.Test.YthdoghhmooodjaaZPremiseLastGn59
namespace Go.Proofs.Ythdoghhmooodjaa.Facts
open Go.RowKit Go.Proofs.Ythdoghhmooodjaa.Gn Go.Proofs.YthdoghhmooodjaaW.PrintWords Go.Proofs.YthdoghhmooodjaaW.PrintLast
theorem w64 {a : Int} (h : -9223372036854775808 ≤ a ∧ a ≤ 9223372036854775807) : wrap64 a = a := by
  unfold wrap64; omega
end Go.Proofs.Ythdoghhmooodjaa.Facts
namespace Go.Proofs.Ythdoghhmooodjaa.Facts
open Go.RowKit Go.Proofs.Ythdoghhmooodjaa.Gn Go.Proofs.YthdoghhmooodjaaW.PrintWords Go.Proofs.YthdoghhmooodjaaW.PrintLast
theorem peel {k m : Nat} (h : m + 1 ≤ k) : ∃ n, k = n + 1 ∧ m ≤ n := ⟨k - 1, by omega, by omega⟩
theorem w64_step {i : Nat} (h : i ≤ 1000000) : wrap64 ((i : Int) + 1) = ((i + 1 : Nat) : Int) := by unfold wrap64; omega
theorem rd_at (l : List Int) (i : Nat) (h : i < l.length) : rd l (i : Int) = l[i] := by
  unfold rd
  simp [List.getD_eq_getElem?_getD, h]
theorem leo_up {f : Nat → Option Bool} (h : ∀ k, LeO (f k) (f (k + 1))) {m k : Nat} (hk : m ≤ k) {b : Bool} (hm : f m = some b) : f k = some b := by
  obtain ⟨d, rfl⟩ : ∃ d, k = m + d := ⟨k - m, by omega⟩
  induction d with
  | zero => exact hm
  | succ d ih => exact h _ _ (ih (by omega))
end Go.Proofs.Ythdoghhmooodjaa.Facts
namespace Go.Proofs.Ythdoghhmooodjaa.Facts
open Go.RowKit Go.Proofs.Ythdoghhmooodjaa.Gn Go.Proofs.YthdoghhmooodjaaW.PrintWords Go.Proofs.YthdoghhmooodjaaW.PrintLast
set_option linter.unusedVariables false
set_option linter.unusedSimpArgs false
def inB (x lo hi : Int) : Bool := decide (lo ≤ x ∧ x ≤ hi)
theorem inB_true {x lo hi : Int} : inB x lo hi = true ↔ lo ≤ x ∧ x ≤ hi := by simp [inB]
theorem inB_false {x lo hi : Int} : inB x lo hi = false ↔ ¬ (lo ≤ x ∧ x ≤ hi) := by simp [inB]
theorem within_eq (x lo hi : Int) : r03_within.f x lo hi = some (inB x lo hi) := by
  unfold r03_within.f inB
  split
  · congr 1; rw [Bool.eq_iff_iff]; simp; omega
  · rw [decide_eq_false (by omega)]
theorem has_eq (x lo hi : Int) : conf_span_has.f lo hi x = some (inB x lo hi) := by
  unfold conf_span_has.f inB
  split
  · congr 1; rw [Bool.eq_iff_iff]; simp; omega
  · rw [decide_eq_false (by omega)]
def nodesB (c0 c1 : Int) : Bool := inB c0 4 13 && (inB c1 0 4 && decide (c0 > 3 * c1))
def numbersB (c1 c2 c3 c4 c5 c6 c7 c8 c9 : Int) : Bool :=
  inB c3 (6 * (c1 + 1) * c2 + 1) 400 && (inB c4 1 64 && (inB c5 0 (c4 - 1) && (inB c6 0 30000 && (inB c7 1 30000 && (inB c8 2 250 && inB c9 1 100)))))
/-- Is a configuration plain (0), or why not. -/
def plainE (c0 c1 c2 c3 c4 c5 c6 c7 c8 c9 : Int) (l : List Int) : Int :=
  if nodesB c0 c1 = true then (if inB c2 1 4 = true then (if numbersB c1 c2 c3 c4 c5 c6 c7 c8 c9 = true then (if tblB c0 l = true then 0 else 11) else 8) else 10) else 7
theorem rd71 (xs : List S95) (i : Nat) (h : i < xs.length) : rd_T95 xs (i : Int) = xs[i] := by
  unfold rd_T95
  simp [List.getD_eq_getElem?_getD, h]
theorem numbers_loop (xs : List S95) (hx : xs.length ≤ 1000) : ∀ (d k i : Nat), i + d = xs.length → d < k → conf_numbers.l0 k xs (xs.length : Int) (i : Int) = some ((xs.drop i).all fun x => inB x.f0 x.f1.f0 x.f1.f1)
  | 0, k, i, h, hk => by
    obtain ⟨k, rfl⟩ : ∃ m, k = m + 1 := ⟨k - 1, by omega⟩
    simp only [conf_numbers.l0]
    rw [if_neg (by omega), List.drop_of_length_le (by omega)]
    rfl
  | d + 1, k, i, h, hk => by
    obtain ⟨k, rfl⟩ : ∃ m, k = m + 1 := ⟨k - 1, by omega⟩
    have hi : i < xs.length := by omega
    simp only [conf_numbers.l0]
    rw [if_pos (by omega), if_pos (by omega), if_pos (by omega), has_eq, Option.bind_some, rd71 xs i hi, List.drop_eq_getElem_cons hi, List.all_cons]
    cases hb : inB xs[i].f0 xs[i].f1.f0 xs[i].f1.f1 with
    | false => simp
    | true =>
      rw [if_pos rfl, show wrap64 ((i : Int) + 1) = ((i + 1 : Nat) : Int) from by unfold wrap64; omega, numbers_loop xs hx d k (i + 1) (by omega) (by omega)]
      simp
theorem numbers_eq (k : Nat) (hk : 8 ≤ k) {c0 c1 c2 c3 c4 c5 c6 c7 c8 c9 : Int} {l : List Int} (h1 : 0 ≤ c1 ∧ c1 ≤ 4) (h2 : 1 ≤ c2 ∧ c2 ≤ 4) : conf_numbers.f k c0 c1 c2 c3 c4 c5 c6 c7 c8 c9 l = some (numbersB c1 c2 c3 c4 c5 c6 c7 c8 c9) := by
  have e1 : wrap64 (c1 + 1) = c1 + 1 := w64 (by omega)
  have e2 : wrap64 (6 * (c1 + 1)) = 6 * (c1 + 1) := w64 (by omega)
  have hm : 0 ≤ 6 * (c1 + 1) * c2 ∧ 6 * (c1 + 1) * c2 ≤ 120 := by
    have a : 6 * (c1 + 1) * c2 ≤ 30 * c2 := Int.mul_le_mul_of_nonneg_right (by omega) (by omega)
    have b : 0 ≤ 6 * (c1 + 1) * c2 := Int.mul_nonneg (by omega) (by omega)
    omega
  have e3 : wrap64 (6 * (c1 + 1) * c2) = 6 * (c1 + 1) * c2 := w64 (by omega)
  have e4 : wrap64 (6 * (c1 + 1) * c2 + 1) = 6 * (c1 + 1) * c2 + 1 := w64 (by omega)
  unfold conf_numbers.f
  rw [e1, e2, e3, e4, Option.bind_some]
  refine (numbers_loop _ (by simp) 7 k 0 rfl (by omega)).trans ?_
  simp only [List.drop_zero, List.all_cons, List.all_nil, Bool.and_true, numbersB]
  congr 2
  cases h4 : inB c4 1 64 with
  | false => simp
  | true =>
    have := inB_true.1 h4
    rw [show wrap64 (c4 - 1) = c4 - 1 from w64 (by omega)]
theorem plain_eq (k : Nat) (hk : 8 ≤ k) (c0 c1 c2 c3 c4 c5 c6 c7 c8 c9 : Int) (l : List Int) : conf_Plain.f k c0 c1 c2 c3 c4 c5 c6 c7 c8 c9 l = some (plainE c0 c1 c2 c3 c4 c5 c6 c7 c8 c9 l) := by
  unfold conf_Plain.f plainE nodesB
  have hn : conf_nodes.f c0 c1 c2 c3 c4 c5 c6 c7 c8 c9 l = some (inB c0 4 13 && (inB c1 0 4 && decide (c0 > 3 * c1))) := by
    unfold conf_nodes.f
    simp only [has_eq, Option.bind_some]
    cases inB c0 4 13 with
    | false => rfl
    | true =>
      cases h1 : inB c1 0 4 with
      | false => rfl
      | true =>
        have := inB_true.1 h1
        rw [show wrap64 (3 * c1) = 3 * c1 from w64 (by omega)]
        rfl
  rw [hn, Option.bind_some]
  cases h0 : (inB c0 4 13 && (inB c1 0 4 && decide (c0 > 3 * c1))) with
  | false => rfl
  | true =>
    rw [if_pos rfl, if_pos rfl, has_eq, Option.bind_some]
    simp only [Bool.and_eq_true] at h0
    have g0 := inB_true.1 h0.1
    have g1 := inB_true.1 h0.2.1
    cases h2 : inB c2 1 4 with
    | false => rfl
    | true =>
      rw [if_pos rfl, if_pos rfl, numbers_eq k hk g1 (inB_true.1 h2), Option.bind_some]
      cases numbersB c1 c2 c3 c4 c5 c6 c7 c8 c9 with
      | false => rfl
      | true =>
        rw [if_pos rfl, if_pos rfl]
        unfold conf_table.f
        rw [if_pos (by omega), Option.bind_some]
        cases tblB c0 l <;> rfl
theorem tblCnt_mem (l : List Int) (i : Nat) : tblCnt l i ≠ 0 ↔ (i : Int) ∈ l := by
  unfold tblCnt
  constructor
  · intro h
    obtain ⟨x, hx⟩ : ∃ x, x ∈ l.filter fun n => n == (i : Int) := by
      cases he : l.filter fun n => n == (i : Int) with
      | nil => simp [he] at h
      | cons a b => exact ⟨a, by simp⟩
    simp at hx
    exact hx.2 ▸ hx.1
  · intro h
    have : (i : Int) ∈ l.filter fun n => n == (i : Int) := by simp [h]
    have := List.length_pos_of_mem this
    omega
theorem rd_get (l : List Int) (i : Nat) (h : i < l.length) : rd l (i : Int) = l[i] := by
  unfold rd
  simp [List.getD_eq_getElem?_getD, h]
theorem w64_succ {i : Nat} (h : i ≤ 1000000) : wrap64 ((i : Int) + 1) = ((i + 1 : Nat) : Int) := by unfold wrap64; omega
section
variable (c0 c1 c2 c3 c4 c5 c6 c7 c8 c9 : Int) (l : List Int)
theorem owned_l2 (hl : l.length ≤ 1000) (x : Int) : ∀ (d k j : Nat) (b : Bool), j + d = l.length → r03_owned.l2 (k + d + 1) x b (j : Int) c0 c1 c2 c3 c4 c5 c6 c7 c8 c9 l = if (b || (l.drop j).any fun y => y == x) = true then r03_owned.l1 k (wrap64 (x + 1)) c0 c1 c2 c3 c4 c5 c6 c7 c8 c9 l else some false
  | 0, k, j, b, h => by
    rw [r03_owned.l2]
    rw [if_neg (by omega), List.drop_of_length_le (by omega)]
    cases b <;> rfl
  | d + 1, k, j, b, h => by
    have hj : j < l.length := by omega
    rw [show k + (d + 1) + 1 = (k + d + 1) + 1 from by omega]
    rw [r03_owned.l2]
    rw [if_pos (by omega), w64_succ (by omega), List.drop_eq_getElem_cons hj, List.any_cons]
    cases b with
    | true =>
      rw [if_pos rfl, owned_l2 hl x d k (j + 1) true (by omega)]
      simp
    | false =>
      rw [if_neg (by simp), if_pos (by omega), owned_l2 hl x d k (j + 1) _ (by omega), rd_get l j hj]
      simp
open Classical in
theorem owned_l1 (hl : l.length ≤ 1000) (N : Nat) (hc : c0 = N) (hN : N ≤ 1000) : ∀ (e m n : Nat), n + e = N → r03_owned.l1 (e * (l.length + 2) + 1 + m) (n : Int) c0 c1 c2 c3 c4 c5 c6 c7 c8 c9 l = some (decide (∀ i : Nat, n ≤ i → i < N → (i : Int) ∈ l))
  | 0, m, n, h => by
    rw [show 0 * (l.length + 2) + 1 + m = m + 1 from by omega]
    rw [r03_owned.l1]
    rw [if_neg (by omega), decide_eq_true (fun i h1 h2 => by omega)]
  | e + 1, m, n, h => by
    rw [show (e + 1) * (l.length + 2) + 1 + m = ((e * (l.length + 2) + 1 + m) + l.length + 1) + 1 from by rw [Nat.add_mul]; omega]
    rw [r03_owned.l1]
    rw [if_pos (by omega), show (0 : Int) = ((0 : Nat) : Int) from rfl, owned_l2 c0 c1 c2 c3 c4 c5 c6 c7 c8 c9 l hl (n : Int) l.length _ 0 false (by omega), List.drop_zero, w64_succ (by omega), owned_l1 hl N hc hN e m (n + 1) (by omega), Bool.false_or]
    by_cases hm : (n : Int) ∈ l
    · rw [if_pos (by rw [List.any_eq_true]; exact ⟨_, hm, by simp⟩)]
      congr 1
      rw [Bool.eq_iff_iff, decide_eq_true_iff, decide_eq_true_iff]
      constructor
      · intro hh i h1 h2
        by_cases e : i = n
        · rw [e]; exact hm
        · exact hh i (by omega) h2
      · intro hh i h1 h2
        exact hh i (by omega) h2
    · rw [if_neg (by
        rw [List.any_eq_true]
        rintro ⟨y, hy, he⟩
        simp at he
        exact hm (he ▸ hy)), decide_eq_false (fun hh => hm (hh n (Nat.le_refl _) (by omega)))]
theorem owned_l0 (hl : l.length ≤ 1000) (h0 : 0 ≤ c0 ∧ c0 ≤ 1000) : ∀ (d k j : Nat), j + d = l.length → r03_owned.l0 (k + d + 1) (j : Int) c0 c1 c2 c3 c4 c5 c6 c7 c8 c9 l = if ((l.drop j).all fun n => decide (0 ≤ n ∧ n < c0)) = true then r03_owned.l1 k 0 c0 c1 c2 c3 c4 c5 c6 c7 c8 c9 l else some false
  | 0, k, j, h => by
    rw [r03_owned.l0]
    rw [if_neg (by omega), List.drop_of_length_le (by omega)]
    rfl
  | d + 1, k, j, h => by
    have hj : j < l.length := by omega
    rw [show k + (d + 1) + 1 = (k + d + 1) + 1 from by omega]
    rw [r03_owned.l0]
    rw [if_pos (by omega), if_pos (by omega), w64_succ (by omega), within_eq, Option.bind_some, rd_get l j hj, List.drop_eq_getElem_cons hj, List.all_cons, show wrap64 (c0 - 1) = c0 - 1 from w64 (by omega)]
    have e : inB l[j] 0 (c0 - 1) = decide (0 ≤ l[j] ∧ l[j] < c0) := by
      unfold inB
      rw [Bool.eq_iff_iff, decide_eq_true_iff, decide_eq_true_iff]
      omega
    rw [e]
    cases decide (0 ≤ l[j] ∧ l[j] < c0) with
    | false => rfl
    | true =>
      rw [if_pos rfl, owned_l0 hl h0 d k (j + 1) (by omega)]
      simp
open Classical in
theorem owned_eq (k : Nat) (hk : 600 ≤ k) (h0 : 0 ≤ c0 ∧ c0 ≤ 13) (hl : 1 ≤ l.length ∧ l.length ≤ 32) : r03_owned.f k c0 c1 c2 c3 c4 c5 c6 c7 c8 c9 l = some (tblB c0 l) := by
  obtain ⟨N, hN⟩ := Int.eq_ofNat_of_zero_le h0.1
  unfold r03_owned.f tblB
  have hmul : N * (l.length + 2) ≤ 13 * 34 := Nat.mul_le_mul (by omega) (by omega)
  obtain ⟨m, hm⟩ : ∃ m, k = (N * (l.length + 2) + 1 + m) + l.length + 1 := ⟨k - (N * (l.length + 2) + 1 + l.length + 1), by omega⟩
  rw [hm, show (0 : Int) = ((0 : Nat) : Int) from rfl, owned_l0 c0 c1 c2 c3 c4 c5 c6 c7 c8 c9 l (by omega) (by omega) l.length _ 0 (by omega), List.drop_zero, decide_eq_true hl, Bool.true_and]
  cases (l.all fun n => decide (((0 : Nat) : Int) ≤ n ∧ n < c0)) with
  | false => rfl
  | true =>
    rw [if_pos rfl, Bool.true_and, show (0 : Int) = ((0 : Nat) : Int) from rfl, owned_l1 c0 c1 c2 c3 c4 c5 c6 c7 c8 c9 l (by omega) N hN (by omega) N m 0 (by omega)]
    congr 1
    rw [Bool.eq_iff_iff, decide_eq_true_iff, List.all_eq_true]
    constructor
    · intro h i hi
      exact decide_eq_true ((tblCnt_mem l i).2 (h i (by omega) (by rw [List.mem_range] at hi; omega)))
    · intro h i _ hi
      exact (tblCnt_mem l i).1 (of_decide_eq_true (h i (by rw [List.mem_range]; omega)))
theorem ref_plain_eq (k : Nat) (hk : 700 ≤ k) : r03_Plain.f k c0 c1 c2 c3 c4 c5 c6 c7 c8 c9 l = some (plainE c0 c1 c2 c3 c4 c5 c6 c7 c8 c9 l) := by
  obtain ⟨k, rfl⟩ : ∃ m, k = m + 2 := ⟨k - 2, by omega⟩
  have hj1t : r03_Plain.j1 (k + 1) true c0 c1 c2 c3 c4 c5 c6 c7 c8 c9 l = some 8 := by simp [r03_Plain.j1]
  have hj0t : r03_Plain.j0 (k + 2) true c0 c1 c2 c3 c4 c5 c6 c7 c8 c9 l = some 7 := by simp [r03_Plain.j0]
  have hj1f (h0 : 4 ≤ c0 ∧ c0 ≤ 13) : r03_Plain.j1 (k + 1) false c0 c1 c2 c3 c4 c5 c6 c7 c8 c9 l = some (if tblB c0 l = true then 0 else 11) := by
    simp only [r03_Plain.j1, within_eq, Option.bind_some]
    rw [if_neg (by decide)]
    cases h : inB (l.length : Int) 1 32 with
    | false =>
      have := inB_false.1 h
      have e : tblB c0 l = false := by unfold tblB; rw [decide_eq_false (by omega)]; rfl
      rw [e]; rfl
    | true =>
      have := inB_true.1 h
      rw [if_pos rfl, owned_eq c0 c1 c2 c3 c4 c5 c6 c7 c8 c9 l k (by omega) (by omega) (by omega), Option.bind_some]
      cases tblB c0 l <;> rfl
  unfold r03_Plain.f plainE nodesB
  rw [within_eq, Option.bind_some, within_eq, Option.bind_some, hj0t]
  cases h0 : inB c0 4 13 with
  | false => rfl
  | true =>
    rw [if_pos rfl]
    cases h1 : inB c1 0 4 with
    | false => rfl
    | true =>
      have g0 := inB_true.1 h0
      have g1 := inB_true.1 h1
      rw [if_pos rfl, show wrap64 (3 * c1) = 3 * c1 from w64 (by omega)]
      by_cases h3 : c0 > 3 * c1
      · rw [decide_eq_false (show ¬ c0 ≤ 3 * c1 by omega), decide_eq_true h3]
        rw [show (true && (true && true)) = true from rfl, if_pos rfl]
        simp only [r03_Plain.j0, within_eq, Option.bind_some]
        rw [if_neg (by decide)]
        cases h2 : inB c2 1 4 with
        | false => rfl
        | true =>
          have g2 := inB_true.1 h2
          have hm : 0 ≤ 6 * (c1 + 1) * c2 ∧ 6 * (c1 + 1) * c2 ≤ 120 := by
            have a : 6 * (c1 + 1) * c2 ≤ 30 * c2 := Int.mul_le_mul_of_nonneg_right (by omega) (by omega)
            have b : 0 ≤ 6 * (c1 + 1) * c2 := Int.mul_nonneg (by omega) (by omega)
            omega
          rw [if_pos rfl, if_pos rfl, show wrap64 (c1 + 1) = c1 + 1 from w64 (by omega), show wrap64 (6 * (c1 + 1)) = 6 * (c1 + 1) from w64 (by omega), show wrap64 (6 * (c1 + 1) * c2) = 6 * (c1 + 1) * c2 from w64 (by omega), show wrap64 (6 * (c1 + 1) * c2 + 1) = 6 * (c1 + 1) * c2 + 1 from w64 (by omega), hj1t]
          unfold numbersB
          cases inB c3 (6 * (c1 + 1) * c2 + 1) 400 with
          | false => rfl
          | true =>
            rw [if_pos rfl]
            cases h4 : inB c4 1 64 with
            | false => rfl
            | true =>
              have g4 := inB_true.1 h4
              rw [if_pos rfl, show wrap64 (c4 - 1) = c4 - 1 from w64 (by omega)]
              cases inB c5 0 (c4 - 1) with
              | false => rfl
              | true =>
                rw [if_pos rfl]
                cases inB c6 0 30000 with
                | false => rfl
                | true =>
                  rw [if_pos rfl]
                  cases inB c7 1 30000 with
                  | false => rfl
                  | true =>
                    rw [if_pos rfl]
                    cases inB c8 2 250 with
                    | false => rfl
                    | true =>
                      rw [if_pos rfl]
                      cases inB c9 1 100 with
                      | false => simp [hj1t]
                      | true => simp [hj1f g0]
      · rw [decide_eq_true (show c0 ≤ 3 * c1 by omega), decide_eq_false h3, hj0t]
        rfl
end
end Go.Proofs.Ythdoghhmooodjaa.Facts
namespace Go.Proofs.Ythdoghhmooodjaa.Facts
open Go.RowKit Go.Proofs.Ythdoghhmooodjaa.Gn Go.Proofs.YthdoghhmooodjaaW.PrintWords Go.Proofs.YthdoghhmooodjaaW.PrintLast
set_option linter.unusedVariables false
set_option linter.unusedSimpArgs false
/-- The limits of a plain configuration. -/
structure Plain (c0 c1 c2 c3 c4 c5 c6 c7 c8 c9 : Int) (l : List Int) : Prop where
  n : 4 ≤ c0 ∧ c0 ≤ 13
  f : 0 ≤ c1 ∧ c1 ≤ 4
  nf : c0 > 3 * c1
  d : 1 ≤ c2 ∧ c2 ≤ 4
  p : 6 * (c1 + 1) * c2 + 1 ≤ c3 ∧ c3 ≤ 400
  r : 1 ≤ c4 ∧ c4 ≤ 64
  dr : 0 ≤ c5 ∧ c5 ≤ c4 - 1
  o : 0 ≤ c6 ∧ c6 ≤ 30000
  s : 1 ≤ c7 ∧ c7 ≤ 30000
  m : 2 ≤ c8 ∧ c8 ≤ 250
  fr : 1 ≤ c9 ∧ c9 ≤ 100
  len : 1 ≤ l.length ∧ l.length ≤ 32
  own : ∀ n ∈ l, 0 ≤ n ∧ n < c0
  all : ∀ i : Nat, (i : Int) < c0 → (i : Int) ∈ l
theorem Plain.p0 {c0 c1 c2 c3 c4 c5 c6 c7 c8 c9 : Int} {l : List Int} (h : Plain c0 c1 c2 c3 c4 c5 c6 c7 c8 c9 l) : 7 ≤ c3 := by
  have h1 := h.f
  have h2 := h.d
  have a : 1 * 1 ≤ (c1 + 1) * c2 := Int.mul_le_mul (by omega) (by omega) (by omega) (by omega)
  have b : 6 * (c1 + 1) * c2 = 6 * ((c1 + 1) * c2) := Int.mul_assoc _ _ _
  have := h.p
  omega
section
variable {c0 c1 c2 c3 c4 c5 c6 c7 c8 c9 : Int} {l : List Int}
theorem plain_iff : plainE c0 c1 c2 c3 c4 c5 c6 c7 c8 c9 l = 0 ↔ Plain c0 c1 c2 c3 c4 c5 c6 c7 c8 c9 l := by
  unfold plainE
  constructor
  · intro h
    split at h
    · rename_i h1
      split at h
      · rename_i h2
        split at h
        · rename_i h3
          split at h
          · rename_i h4
            simp only [nodesB, Bool.and_eq_true, inB_true, decide_eq_true_eq] at h1
            simp only [numbersB, Bool.and_eq_true, inB_true] at h3
            simp only [tblB, Bool.and_eq_true, decide_eq_true_eq, List.all_eq_true] at h4
            obtain ⟨g1, g2, g3⟩ := h1
            obtain ⟨k3, k4, k5, k6, k7, k8, k9⟩ := h3
            obtain ⟨⟨t1, t2⟩, t3⟩ := h4
            exact ⟨g1, g2, g3, inB_true.1 h2, k3, k4, k5, k6, k7, k8, k9, t1, t2, fun i hi => (tblCnt_mem l i).1 (t3 i (by rw [List.mem_range]; omega))⟩
          · omega
        · omega
      · omega
    · omega
  · intro h
    have h1 : nodesB c0 c1 = true := by simp only [nodesB, Bool.and_eq_true, inB_true, decide_eq_true_eq]; exact ⟨h.n, h.f, h.nf⟩
    have h3 : numbersB c1 c2 c3 c4 c5 c6 c7 c8 c9 = true := by simp only [numbersB, Bool.and_eq_true, inB_true]; exact ⟨h.p, h.r, h.dr, h.o, h.s, h.m, h.fr⟩
    have h4 : tblB c0 l = true := by
      simp only [tblB, Bool.and_eq_true, decide_eq_true_eq, List.all_eq_true]
      exact ⟨⟨h.len, h.own⟩, fun i hi => (tblCnt_mem l i).2 (h.all i (by rw [List.mem_range] at hi; have := h.n; omega))⟩
    rw [if_pos h1, if_pos (inB_true.2 h.d), if_pos h3, if_pos h4]
end
theorem mul_bd {x y a b : Int} (hx : 0 ≤ x ∧ x ≤ a) (hy : 0 ≤ y ∧ y ≤ b) : 0 ≤ x * y ∧ x * y ≤ a * b :=
  ⟨Int.mul_nonneg hx.1 hy.1, Int.mul_le_mul hx.2 hy.2 hy.1 (by omega)⟩
theorem ceil_eq {a b : Int} (ha : 0 ≤ a) (hb : 1 ≤ b) : (a + b - 1) / b = a / b + if a % b > 0 then 1 else 0 := by
  have h := Int.mul_ediv_add_emod a b
  have h1 := Int.emod_nonneg a (show b ≠ 0 by omega)
  have h2 := Int.emod_lt_of_pos a (show 0 < b by omega)
  split
  · have e : a + b - 1 = (a % b - 1) + (a / b + 1) * b := by
      rw [Int.add_mul, Int.mul_comm (a / b) b]
      omega
    rw [e, Int.add_mul_ediv_right _ _ (by omega), Int.ediv_eq_zero_of_lt (by omega) (by omega)]
    omega
  · have e : a + b - 1 = (b - 1) + (a / b) * b := by
      rw [Int.mul_comm (a / b) b]
      omega
    rw [e, Int.add_mul_ediv_right _ _ (by omega), Int.ediv_eq_zero_of_lt (by omega) (by omega)]
    omega
def beginV (c6 c7 i : Int) : Int := c6 + i * c7
def middleV (c6 c7 i : Int) : Int := c6 + i * c7 + c7 / 2
/-- How far clocks may be apart. -/
def guardV (c2 c4 c5 c6 c7 n : Int) : Int := (2 * c5 * middleV c6 c7 (n - 1) + (c4 - c5) - 1) / (c4 - c5) + c4 + (c2 + 1) * c5
def RightP (c2 c3 c4 c5 c6 c7 n : Int) : Prop :=
  c7 > 2 * guardV c2 c4 c5 c6 c7 n ∧ middleV c6 c7 (n - 1) + c2 * c4 + guardV c2 c4 c5 c6 c7 n ≤ (c3 - 1) * (c4 - c5) ∧ c3 * (c4 + c5) < 32768
instance (c2 c3 c4 c5 c6 c7 n : Int) : Decidable (RightP c2 c3 c4 c5 c6 c7 n) := by unfold RightP; exact inferInstance
def rightE (c0 c1 c2 c3 c4 c5 c6 c7 c8 c9 : Int) (l : List Int) : Int :=
  if plainE c0 c1 c2 c3 c4 c5 c6 c7 c8 c9 l = 0 then (if RightP c2 c3 c4 c5 c6 c7 l.length then 0 else 8) else plainE c0 c1 c2 c3 c4 c5 c6 c7 c8 c9 l
section
variable {c0 c1 c2 c3 c4 c5 c6 c7 c8 c9 : Int} {l : List Int} (h : Plain c0 c1 c2 c3 c4 c5 c6 c7 c8 c9 l)
include h
theorem begin_bd {i : Int} (hi : 0 ≤ i ∧ i < l.length) : 0 ≤ i * c7 ∧ i * c7 ≤ 31 * 30000 := mul_bd ⟨hi.1, by have := h.len; omega⟩ ⟨by have := h.s; omega, h.s.2⟩
theorem middle_bd {i : Int} (hi : 0 ≤ i ∧ i < l.length) : 0 ≤ middleV c6 c7 i ∧ middleV c6 c7 i ≤ 975000 := by
  have := begin_bd h hi
  have := h.o
  have := h.s
  unfold middleV
  omega
theorem begin_w {i : Int} (hi : 0 ≤ i ∧ i < l.length) : wrap64 (c6 + wrap64 (i * c7)) = beginV c6 c7 i := by
  have := begin_bd h hi
  have := h.o
  rw [w64 (a := i * c7) (by omega), w64 (by omega), beginV]
theorem middle_w {i : Int} (hi : 0 ≤ i ∧ i < l.length) : wrap64 (beginV c6 c7 i + wrap64 (Int.tdiv c7 2)) = middleV c6 c7 i := by
  have := begin_bd h hi
  have := h.o
  have := h.s
  rw [Int.tdiv_eq_ediv_of_nonneg (by omega), w64 (a := c7 / 2) (by omega), beginV, middleV, w64 (by omega)]
theorem last_i : 0 ≤ (l.length : Int) - 1 ∧ (l.length : Int) - 1 < l.length := by have := h.len; omega
theorem len_w : wrap64 ((l.length : Int) - 1) = (l.length : Int) - 1 := by have := h.len; exact w64 (by omega)
theorem apart_bd : 0 ≤ 2 * c5 * middleV c6 c7 (l.length - 1) ∧ 2 * c5 * middleV c6 c7 (l.length - 1) ≤ 126 * 975000 := by
  have := h.r
  have := h.dr
  exact mul_bd ⟨by omega, by omega⟩ (middle_bd h (last_i h))
theorem guard_bd : 0 ≤ guardV c2 c4 c5 c6 c7 l.length ∧ guardV c2 c4 c5 c6 c7 l.length ≤ 126 * 975000 + 1000 := by
  have a := apart_bd h
  have := h.r
  have := h.dr
  have := h.d
  have b := mul_bd (x := c2 + 1) (y := c5) (a := 5) (b := 63) ⟨by omega, by omega⟩ ⟨by omega, by omega⟩
  have q : 0 ≤ (2 * c5 * middleV c6 c7 (l.length - 1) + (c4 - c5) - 1) / (c4 - c5) := Int.ediv_nonneg (by omega) (by omega)
  have q2 : (2 * c5 * middleV c6 c7 (l.length - 1) + (c4 - c5) - 1) / (c4 - c5) ≤ 2 * c5 * middleV c6 c7 (l.length - 1) + (c4 - c5) - 1 := Int.ediv_le_self _ (by omega)
  unfold guardV
  omega
theorem slow_w : wrap64 (c4 - c5) = c4 - c5 := by have := h.r; have := h.dr; exact w64 (by omega)
theorem fast_w : wrap64 (c4 + c5) = c4 + c5 := by have := h.r; have := h.dr; exact w64 (by omega)
theorem guard_tail (x : Int) (hx : 0 ≤ x ∧ x ≤ 126 * 975000 + 100) : wrap64 (wrap64 (wrap64 x + c4) + wrap64 (wrap64 (c2 + 1) * c5)) = x + c4 + (c2 + 1) * c5 := by
  have := h.r
  have := h.dr
  have := h.d
  have b := mul_bd (x := c2 + 1) (y := c5) (a := 5) (b := 63) ⟨by omega, by omega⟩ ⟨by omega, by omega⟩
  rw [w64 (a := x) (by omega), w64 (a := c2 + 1) (by omega), w64 (a := (c2 + 1) * c5) (by omega), w64 (a := x + c4) (by omega), w64 (by omega)]
end
section
variable (c0 c1 c2 c3 c4 c5 c6 c7 c8 c9 : Int) (l : List Int)
theorem of_eq (k : Nat) (hk : 8 ≤ k) : bound_of.f k c0 c1 c2 c3 c4 c5 c6 c7 c8 c9 l = some (plainE c0 c1 c2 c3 c4 c5 c6 c7 c8 c9 l == 0) := by
  unfold bound_of.f
  rw [plain_eq k hk]
  rfl
theorem pmiddle_eq (h : Plain c0 c1 c2 c3 c4 c5 c6 c7 c8 c9 l) {i : Int} (hi : 0 ≤ i ∧ i < l.length) : bound_plain_middle.f c0 c1 c2 c3 c4 c5 c6 c7 c8 c9 l i = some (middleV c6 c7 i) := by
  unfold bound_plain_middle.f bound_plain_begin.f
  rw [begin_w h hi, Option.bind_some, middle_w h hi]
theorem last_eq (h : Plain c0 c1 c2 c3 c4 c5 c6 c7 c8 c9 l) : bound_plain_last.f c0 c1 c2 c3 c4 c5 c6 c7 c8 c9 l = some (middleV c6 c7 (l.length - 1)) := by
  unfold bound_plain_last.f
  rw [len_w h, pmiddle_eq _ _ _ _ _ _ _ _ _ _ _ h (last_i h)]
  rfl
theorem pguard_eq (h : Plain c0 c1 c2 c3 c4 c5 c6 c7 c8 c9 l) : bound_plain_guard.f c0 c1 c2 c3 c4 c5 c6 c7 c8 c9 l = some (guardV c2 c4 c5 c6 c7 l.length) := by
  have a := apart_bd h
  have hr := h.r
  have hd := h.dr
  have q : 0 ≤ (2 * c5 * middleV c6 c7 (l.length - 1) + (c4 - c5) - 1) / (c4 - c5) := Int.ediv_nonneg (by omega) (by omega)
  have q2 : (2 * c5 * middleV c6 c7 (l.length - 1) + (c4 - c5) - 1) / (c4 - c5) ≤ 2 * c5 * middleV c6 c7 (l.length - 1) + (c4 - c5) - 1 := Int.ediv_le_self _ (by omega)
  unfold bound_plain_guard.f bound_plain_slowest.f
  rw [last_eq _ _ _ _ _ _ _ _ _ _ _ h, slow_w h]
  simp only [Option.bind_some]
  rw [if_neg (by omega), w64 (a := 2 * c5) (by omega), w64 (a := 2 * c5 * middleV c6 c7 (l.length - 1)) (by omega), w64 (a := 2 * c5 * middleV c6 c7 (l.length - 1) + (c4 - c5)) (by omega), w64 (a := 2 * c5 * middleV c6 c7 (l.length - 1) + (c4 - c5) - 1) (by omega), Int.tdiv_eq_ediv_of_nonneg (by omega), guard_tail h _ ⟨q, by omega⟩]
  rfl
theorem right_eq (k : Nat) (hk : 8 ≤ k) : bound_Right.f k c0 c1 c2 c3 c4 c5 c6 c7 c8 c9 l = some (rightE c0 c1 c2 c3 c4 c5 c6 c7 c8 c9 l) := by
  unfold bound_Right.f rightE
  rw [of_eq _ _ _ _ _ _ _ _ _ _ _ k hk, Option.bind_some]
  by_cases hp : plainE c0 c1 c2 c3 c4 c5 c6 c7 c8 c9 l = 0
  · have h := plain_iff.1 hp
    have gb := guard_bd h
    have mb := middle_bd h (last_i h)
    have hr := h.r
    have hd := h.dr
    have hdd := h.d
    have hpp := h.p
    have hp0 := h.p0
    have b1 := mul_bd (x := c2) (y := c4) (a := 4) (b := 64) ⟨by omega, by omega⟩ ⟨by omega, by omega⟩
    have b2 := mul_bd (x := c3 - 1) (y := c4 - c5) (a := 400) (b := 64) ⟨by omega, by omega⟩ ⟨by omega, by omega⟩
    have b3 := mul_bd (x := c3) (y := c4 + c5) (a := 400) (b := 128) ⟨by omega, by omega⟩ ⟨by omega, by omega⟩
    rw [if_pos (by simp [hp]), pguard_eq _ _ _ _ _ _ _ _ _ _ _ h, Option.bind_some, if_pos hp]
    unfold bound_sound_parts.f bound_sound_ends.f bound_sound_turns.f bound_plain_slowest.f bound_plain_fastest.f
    rw [last_eq _ _ _ _ _ _ _ _ _ _ _ h, slow_w h, fast_w h]
    simp only [Option.bind_some]
    rw [w64 (a := 2 * guardV c2 c4 c5 c6 c7 l.length) (by omega), w64 (a := c2 * c4) (by omega), w64 (a := middleV c6 c7 (l.length - 1) + c2 * c4) (by omega), w64 (a := middleV c6 c7 (l.length - 1) + c2 * c4 + guardV c2 c4 c5 c6 c7 l.length) (by omega), w64 (a := c3 - 1) (by omega), w64 (a := (c3 - 1) * (c4 - c5)) (by omega), w64 (a := c3 * (c4 + c5)) (by omega)]
    by_cases g1 : c7 > 2 * guardV c2 c4 c5 c6 c7 l.length
    · rw [if_pos (decide_eq_true g1)]
      by_cases g2 : middleV c6 c7 (l.length - 1) + c2 * c4 + guardV c2 c4 c5 c6 c7 l.length ≤ (c3 - 1) * (c4 - c5)
      · rw [if_pos (decide_eq_true g2)]
        by_cases g3 : c3 * (c4 + c5) < 32768
        · rw [if_pos (decide_eq_true g3), if_pos ⟨g1, g2, g3⟩]
        · rw [if_neg (by simpa using g3), if_neg (fun x => g3 x.2.2)]
      · rw [if_neg (by simpa using g2), if_neg (fun x => g2 x.2.1)]
    · rw [if_neg (by simpa using g1), if_neg (fun x => g1 x.1)]
  · rw [if_neg (by simp [hp]), plain_eq k hk, if_neg hp]
    rfl
theorem rounds_eq (k : Nat) (hk : 8 ≤ k) : conf_Rounds.f k c0 c1 c2 c3 c4 c5 c6 c7 c8 c9 l = some (if plainE c0 c1 c2 c3 c4 c5 c6 c7 c8 c9 l = 0 then 3 * (c1 + 1) else 0) := by
  unfold conf_Rounds.f
  rw [plain_eq k hk, Option.bind_some]
  by_cases hp : plainE c0 c1 c2 c3 c4 c5 c6 c7 c8 c9 l = 0
  · have := (plain_iff.1 hp).f
    rw [if_pos hp, if_pos hp, w64 (a := c1 + 1) (by omega), w64 (by omega)]
  · rw [if_neg hp, if_neg hp]
def lengthV (c1 c2 : Int) : Int := 3 * (c1 + 1) * c2
theorem length_bd (h : Plain c0 c1 c2 c3 c4 c5 c6 c7 c8 c9 l) : 0 ≤ lengthV c1 c2 ∧ lengthV c1 c2 ≤ 60 := by
  have := h.f
  have := h.d
  exact mul_bd (a := 15) (b := 4) ⟨by omega, by omega⟩ ⟨by omega, by omega⟩
theorem length_eq (k : Nat) (hk : 8 ≤ k) : conf_Length.f k c0 c1 c2 c3 c4 c5 c6 c7 c8 c9 l = some (if plainE c0 c1 c2 c3 c4 c5 c6 c7 c8 c9 l = 0 then lengthV c1 c2 else 0) := by
  unfold conf_Length.f
  rw [rounds_eq _ _ _ _ _ _ _ _ _ _ _ k hk, Option.bind_some]
  by_cases hp : plainE c0 c1 c2 c3 c4 c5 c6 c7 c8 c9 l = 0
  · have h := plain_iff.1 hp
    have := h.d
    have := length_bd _ _ _ _ _ _ _ _ _ _ _ h
    rw [if_pos hp, if_pos hp, show mx c2 0 = c2 from by unfold mx; rw [if_neg (by omega)]]
    rw [show 3 * (c1 + 1) * c2 = lengthV c1 c2 from rfl, w64 (by omega)]
  · rw [if_neg hp, if_neg hp, Int.zero_mul]
    exact congrArg some (w64 (by omega))
def settleV (c1 c2 c3 : Int) : Int := 1 + 4 * lengthV c1 c2 + 2 * c3
theorem settle_eq (k : Nat) (hk : 8 ≤ k) : bound_Settle.f k c0 c1 c2 c3 c4 c5 c6 c7 c8 c9 l = some (if plainE c0 c1 c2 c3 c4 c5 c6 c7 c8 c9 l = 0 then settleV c1 c2 c3 else 0) := by
  unfold bound_Settle.f
  rw [of_eq _ _ _ _ _ _ _ _ _ _ _ k hk, Option.bind_some]
  by_cases hp : plainE c0 c1 c2 c3 c4 c5 c6 c7 c8 c9 l = 0
  · have h := plain_iff.1 hp
    have := h.p
    have := h.p0
    have := length_bd _ _ _ _ _ _ _ _ _ _ _ h
    rw [if_pos (by simp [hp]), length_eq _ _ _ _ _ _ _ _ _ _ _ k hk, Option.bind_some, if_pos hp, if_pos hp, w64 (a := 4 * lengthV c1 c2) (by omega), w64 (a := 1 + 4 * lengthV c1 c2) (by omega), w64 (a := 2 * c3) (by omega), w64 (by omega)]
    rfl
  · rw [if_neg (by simp [hp]), if_neg hp]
theorem all_eq (k : Nat) (hk : 8 ≤ k) : bound_All.f k c0 c1 c2 c3 c4 c5 c6 c7 c8 c9 l = some (if plainE c0 c1 c2 c3 c4 c5 c6 c7 c8 c9 l = 0 then settleV c1 c2 c3 + 4 * c3 else 0) := by
  unfold bound_All.f
  rw [of_eq _ _ _ _ _ _ _ _ _ _ _ k hk, Option.bind_some]
  by_cases hp : plainE c0 c1 c2 c3 c4 c5 c6 c7 c8 c9 l = 0
  · have h := plain_iff.1 hp
    have := h.p
    have := h.p0
    have := length_bd _ _ _ _ _ _ _ _ _ _ _ h
    rw [if_pos (by simp [hp]), settle_eq _ _ _ _ _ _ _ _ _ _ _ k hk, Option.bind_some, if_pos hp, if_pos hp, w64 (a := 4 * c3) (by omega), w64 (by unfold settleV; omega)]
  · rw [if_neg (by simp [hp]), if_neg hp]
end
end Go.Proofs.Ythdoghhmooodjaa.Facts
namespace Go.Proofs.Ythdoghhmooodjaa.Facts
open Go.RowKit Go.Proofs.Ythdoghhmooodjaa.Gn Go.Proofs.YthdoghhmooodjaaW.PrintWords Go.Proofs.YthdoghhmooodjaaW.PrintLast
set_option linter.unusedVariables false
set_option linter.unusedSimpArgs false
section
variable (c0 c1 c2 c3 c4 c5 c6 c7 c8 c9 : Int) (l : List Int)
theorem ref_begin_eq (k : Nat) (hk : 700 ≤ k) (i : Int) : r04_Begin.f k c0 c1 c2 c3 c4 c5 c6 c7 c8 c9 l i = some (if plainE c0 c1 c2 c3 c4 c5 c6 c7 c8 c9 l = 0 ∧ 0 ≤ i ∧ i < l.length then beginV c6 c7 i else 0) := by
  unfold r04_Begin.f
  rw [ref_plain_eq _ _ _ _ _ _ _ _ _ _ _ k hk, Option.bind_some]
  by_cases hp : plainE c0 c1 c2 c3 c4 c5 c6 c7 c8 c9 l = 0
  · rw [if_pos hp]
    by_cases h0 : i < 0
    · rw [if_pos h0, if_neg (by omega)]
    · rw [if_neg h0]
      by_cases h1 : i ≥ l.length
      · rw [if_pos h1, if_neg (by omega)]
      · rw [if_neg h1, if_pos ⟨hp, by omega, by omega⟩, begin_w (plain_iff.1 hp) ⟨by omega, by omega⟩]
  · rw [if_neg hp, if_neg (fun x => hp x.1)]
theorem ref_middle_eq (k : Nat) (hk : 700 ≤ k) (i : Int) : r04_Middle.f k c0 c1 c2 c3 c4 c5 c6 c7 c8 c9 l i = some (if plainE c0 c1 c2 c3 c4 c5 c6 c7 c8 c9 l = 0 ∧ 0 ≤ i ∧ i < l.length then middleV c6 c7 i else 0) := by
  unfold r04_Middle.f
  rw [ref_plain_eq _ _ _ _ _ _ _ _ _ _ _ k hk, Option.bind_some]
  by_cases hp : plainE c0 c1 c2 c3 c4 c5 c6 c7 c8 c9 l = 0
  · rw [if_pos hp]
    by_cases h0 : i < 0
    · rw [if_pos h0, if_neg (by omega)]
    · rw [if_neg h0]
      by_cases h1 : i ≥ l.length
      · rw [if_pos h1, if_neg (by omega)]
      · have hi : 0 ≤ i ∧ i < l.length := ⟨by omega, by omega⟩
        rw [if_neg h1, ref_begin_eq _ _ _ _ _ _ _ _ _ _ _ k hk, Option.bind_some, if_pos ⟨hp, hi⟩, if_pos ⟨hp, hi⟩, middle_w (plain_iff.1 hp) hi]
  · rw [if_neg hp, if_neg (fun x => hp x.1)]
theorem ref_guard_eq (k : Nat) (hk : 700 ≤ k) : r04_Guard.f k c0 c1 c2 c3 c4 c5 c6 c7 c8 c9 l = some (if plainE c0 c1 c2 c3 c4 c5 c6 c7 c8 c9 l = 0 then guardV c2 c4 c5 c6 c7 l.length else 0) := by
  unfold r04_Guard.f
  rw [ref_plain_eq _ _ _ _ _ _ _ _ _ _ _ k hk, Option.bind_some]
  by_cases hp : plainE c0 c1 c2 c3 c4 c5 c6 c7 c8 c9 l = 0
  · have h := plain_iff.1 hp
    have a := apart_bd h
    have hr := h.r
    have hd := h.dr
    have q : 0 ≤ 2 * c5 * middleV c6 c7 (l.length - 1) / (c4 - c5) := Int.ediv_nonneg (by omega) (by omega)
    have q2 : 2 * c5 * middleV c6 c7 (l.length - 1) / (c4 - c5) ≤ 2 * c5 * middleV c6 c7 (l.length - 1) := Int.ediv_le_self _ (by omega)
    have ce := ceil_eq (a := 2 * c5 * middleV c6 c7 (l.length - 1)) (b := c4 - c5) (by omega) (by omega)
    rw [if_pos hp, if_pos hp, len_w h, ref_middle_eq _ _ _ _ _ _ _ _ _ _ _ k hk, Option.bind_some, if_pos (And.intro hp (last_i h)), slow_w h, if_neg (by omega), w64 (a := 2 * c5) (by omega), w64 (a := 2 * c5 * middleV c6 c7 (l.length - 1)) (by omega), Int.tdiv_eq_ediv_of_nonneg (by omega), Int.tmod_eq_emod_of_nonneg (by omega)]
    unfold guardV
    rw [ce]
    by_cases hm : 2 * c5 * middleV c6 c7 (l.length - 1) % (c4 - c5) > 0
    · rw [if_pos hm, if_pos hm, w64 (a := 2 * c5 * middleV c6 c7 (l.length - 1) / (c4 - c5)) (by omega), guard_tail h _ ⟨by omega, by omega⟩]
    · rw [if_neg hm, if_neg hm, guard_tail h _ ⟨by omega, by omega⟩, Int.add_zero]
  · rw [if_neg hp, if_neg hp]
theorem ref_right_eq (k : Nat) (hk : 700 ≤ k) : r04_Right.f k c0 c1 c2 c3 c4 c5 c6 c7 c8 c9 l = some (rightE c0 c1 c2 c3 c4 c5 c6 c7 c8 c9 l) := by
  unfold r04_Right.f rightE
  rw [ref_plain_eq _ _ _ _ _ _ _ _ _ _ _ k hk, Option.bind_some]
  by_cases hp : plainE c0 c1 c2 c3 c4 c5 c6 c7 c8 c9 l = 0
  · have h := plain_iff.1 hp
    have gb := guard_bd h
    have mb := middle_bd h (last_i h)
    have hr := h.r
    have hd := h.dr
    have hdd := h.d
    have hpp := h.p
    have hp0 := h.p0
    have b1 := mul_bd (x := c2) (y := c4) (a := 4) (b := 64) ⟨by omega, by omega⟩ ⟨by omega, by omega⟩
    have b2 := mul_bd (x := c3 - 1) (y := c4 - c5) (a := 400) (b := 64) ⟨by omega, by omega⟩ ⟨by omega, by omega⟩
    have b3 := mul_bd (x := c3) (y := c4 + c5) (a := 400) (b := 128) ⟨by omega, by omega⟩ ⟨by omega, by omega⟩
    rw [if_pos hp, if_pos hp, ref_guard_eq _ _ _ _ _ _ _ _ _ _ _ k hk, Option.bind_some, if_pos hp, len_w h, ref_middle_eq _ _ _ _ _ _ _ _ _ _ _ k hk, Option.bind_some, if_pos (And.intro hp (last_i h)), slow_w h, fast_w h]
    rw [w64 (a := 2 * guardV c2 c4 c5 c6 c7 l.length) (by omega), w64 (a := c2 * c4) (by omega), w64 (a := middleV c6 c7 (l.length - 1) + c2 * c4) (by omega), w64 (a := middleV c6 c7 (l.length - 1) + c2 * c4 + guardV c2 c4 c5 c6 c7 l.length) (by omega), w64 (a := c3 - 1) (by omega), w64 (a := (c3 - 1) * (c4 - c5)) (by omega), w64 (a := c3 * (c4 + c5)) (by omega)]
    by_cases g1 : c7 ≤ 2 * guardV c2 c4 c5 c6 c7 l.length
    · rw [if_pos g1, if_neg (fun x => absurd x.1 (by omega))]
    · rw [if_neg g1]
      by_cases g2 : middleV c6 c7 (l.length - 1) + c2 * c4 + guardV c2 c4 c5 c6 c7 l.length > (c3 - 1) * (c4 - c5)
      · rw [if_pos g2, if_neg (fun x => absurd x.2.1 (by omega))]
      · rw [if_neg g2]
        by_cases g3 : c3 * (c4 + c5) ≥ 32768
        · rw [if_pos g3, if_neg (fun x => absurd x.2.2 (by omega))]
        · rw [if_neg g3, if_pos ⟨by omega, by omega, by omega⟩]
  · rw [if_neg hp, if_neg hp]
    rfl
theorem ref_length_eq (k : Nat) (hk : 700 ≤ k) : r03_Length.f k c0 c1 c2 c3 c4 c5 c6 c7 c8 c9 l = some (if plainE c0 c1 c2 c3 c4 c5 c6 c7 c8 c9 l = 0 then lengthV c1 c2 else 0) := by
  unfold r03_Length.f
  rw [ref_plain_eq _ _ _ _ _ _ _ _ _ _ _ k hk, Option.bind_some]
  by_cases hp : plainE c0 c1 c2 c3 c4 c5 c6 c7 c8 c9 l = 0
  · have h := plain_iff.1 hp
    have := h.f
    have := length_bd _ _ _ _ _ _ _ _ _ _ _ h
    rw [if_pos hp, if_pos hp, w64 (a := c1 + 1) (by omega), w64 (a := 3 * (c1 + 1)) (by omega), show 3 * (c1 + 1) * c2 = lengthV c1 c2 from rfl, w64 (by omega)]
  · rw [if_neg hp, if_neg hp]
theorem ref_settle_eq (k : Nat) (hk : 700 ≤ k) : r04_Settle.f k c0 c1 c2 c3 c4 c5 c6 c7 c8 c9 l = some (if plainE c0 c1 c2 c3 c4 c5 c6 c7 c8 c9 l = 0 then settleV c1 c2 c3 else 0) := by
  unfold r04_Settle.f
  rw [ref_plain_eq _ _ _ _ _ _ _ _ _ _ _ k hk, Option.bind_some]
  by_cases hp : plainE c0 c1 c2 c3 c4 c5 c6 c7 c8 c9 l = 0
  · have h := plain_iff.1 hp
    have := h.p
    have := h.p0
    have := length_bd _ _ _ _ _ _ _ _ _ _ _ h
    rw [if_pos hp, ref_length_eq _ _ _ _ _ _ _ _ _ _ _ k hk, Option.bind_some, if_pos hp, if_pos hp, w64 (a := 4 * lengthV c1 c2) (by omega), w64 (a := 1 + 4 * lengthV c1 c2) (by omega), w64 (a := 2 * c3) (by omega), w64 (by omega)]
    rfl
  · rw [if_neg hp, if_neg hp]
theorem ref_all_eq (k : Nat) (hk : 700 ≤ k) : r04_All.f k c0 c1 c2 c3 c4 c5 c6 c7 c8 c9 l = some (if plainE c0 c1 c2 c3 c4 c5 c6 c7 c8 c9 l = 0 then settleV c1 c2 c3 + 4 * c3 else 0) := by
  unfold r04_All.f
  rw [ref_plain_eq _ _ _ _ _ _ _ _ _ _ _ k hk, Option.bind_some]
  by_cases hp : plainE c0 c1 c2 c3 c4 c5 c6 c7 c8 c9 l = 0
  · have h := plain_iff.1 hp
    have := h.p
    have := h.p0
    have := length_bd _ _ _ _ _ _ _ _ _ _ _ h
    rw [if_pos hp, ref_settle_eq _ _ _ _ _ _ _ _ _ _ _ k hk, Option.bind_some, if_pos hp, if_pos hp, w64 (a := 4 * c3) (by omega), w64 (by unfold settleV; omega)]
  · rw [if_neg hp, if_neg hp]
end
end Go.Proofs.Ythdoghhmooodjaa.Facts
