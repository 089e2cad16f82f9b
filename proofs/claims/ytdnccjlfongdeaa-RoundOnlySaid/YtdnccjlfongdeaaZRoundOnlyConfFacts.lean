import Derived.Test.YtdnccjlfongdeaaZRoundOnlyGn0
import Derived.Test.YtdnccjlfongdeaaZRoundOnlyGn4
import Derived.Test.YtdnccjlfongdeaaZRoundOnlyGn23
import Derived.Test.YtdnccjlfongdeaaZRoundOnlyGn24
import Derived.Test.YtdnccjlfongdeaaZRoundOnlyRingFacts0
namespace Go.Proofs.Ytdnccjlfongdeaa.Facts
open Go.RowKit Go.Proofs.Ytdnccjlfongdeaa.Gn Go.Proofs.YtdnccjlfongdeaaW.PrintWords Go.Proofs.YtdnccjlfongdeaaW.PrintLast
set_option linter.unusedVariables false
set_option linter.unusedSimpArgs false
def inB (x lo hi : Int) : Bool := decide (lo ≤ x ∧ x ≤ hi)
theorem inB_true {x lo hi : Int} : inB x lo hi = true ↔ lo ≤ x ∧ x ≤ hi := by simp [inB]
theorem inB_false {x lo hi : Int} : inB x lo hi = false ↔ ¬ (lo ≤ x ∧ x ≤ hi) := by simp [inB]
theorem within_eq (x lo hi : Int) : r03_within.f x lo hi = some (inB x lo hi) := by
  unfold r03_within.f inB
  split
  · congr 1; rw [Bool.eq_iff_iff]; simp; omega
  · rw [decide_eq_false (by omega)]
theorem has_eq (x lo hi : Int) : conf_span_has.f lo hi x = some (inB x lo hi) := by
  unfold conf_span_has.f inB
  split
  · congr 1; rw [Bool.eq_iff_iff]; simp; omega
  · rw [decide_eq_false (by omega)]
def nodesB (c0 c1 : Int) : Bool := inB c0 4 13 && (inB c1 0 4 && decide (c0 > 3 * c1))
def numbersB (c1 c2 c3 c4 c5 c6 c7 c8 c9 : Int) : Bool :=
  inB c3 (6 * (c1 + 1) * c2 + 1) 400 && (inB c4 1 64 && (inB c5 0 (c4 - 1) && (inB c6 0 30000 && (inB c7 1 30000 && (inB c8 2 250 && inB c9 1 100)))))
/-- Is a configuration plain (0), or why not. -/
def plainE (c0 c1 c2 c3 c4 c5 c6 c7 c8 c9 : Int) (l : List Int) : Int :=
  if nodesB c0 c1 = true then (if inB c2 1 4 = true then (if numbersB c1 c2 c3 c4 c5 c6 c7 c8 c9 = true then (if tblB c0 l = true then 0 else 11) else 8) else 10) else 7
theorem rd71 (xs : List S77) (i : Nat) (h : i < xs.length) : rd_T77 xs (i : Int) = xs[i] := by
  unfold rd_T77
  simp [List.getD_eq_getElem?_getD, h]
theorem numbers_loop (xs : List S77) (hx : xs.length ≤ 1000) : ∀ (d k i : Nat), i + d = xs.length → d < k → conf_numbers.l0 k xs (xs.length : Int) (i : Int) = some ((xs.drop i).all fun x => inB x.f0 x.f1.f0 x.f1.f1)
  | 0, k, i, h, hk => by
    obtain ⟨k, rfl⟩ : ∃ m, k = m + 1 := ⟨k - 1, by omega⟩
    simp only [conf_numbers.l0]
    rw [if_neg (by omega), List.drop_of_length_le (by omega)]
    rfl
  | d + 1, k, i, h, hk => by
    obtain ⟨k, rfl⟩ : ∃ m, k = m + 1 := ⟨k - 1, by omega⟩
    have hi : i < xs.length := by omega
    simp only [conf_numbers.l0]
    rw [if_pos (by omega), if_pos (by omega), if_pos (by omega), has_eq, Option.bind_some, rd71 xs i hi, List.drop_eq_getElem_cons hi, List.all_cons]
    cases hb : inB xs[i].f0 xs[i].f1.f0 xs[i].f1.f1 with
    | false => simp
    | true =>
      rw [if_pos rfl, show wrap64 ((i : Int) + 1) = ((i + 1 : Nat) : Int) from by unfold wrap64; omega, numbers_loop xs hx d k (i + 1) (by omega) (by omega)]
      simp
theorem numbers_eq (k : Nat) (hk : 8 ≤ k) {c0 c1 c2 c3 c4 c5 c6 c7 c8 c9 : Int} {l : List Int} (h1 : 0 ≤ c1 ∧ c1 ≤ 4) (h2 : 1 ≤ c2 ∧ c2 ≤ 4) : conf_numbers.f k c0 c1 c2 c3 c4 c5 c6 c7 c8 c9 l = some (numbersB c1 c2 c3 c4 c5 c6 c7 c8 c9) := by
  have e1 : wrap64 (c1 + 1) = c1 + 1 := w64 (by omega)
  have e2 : wrap64 (6 * (c1 + 1)) = 6 * (c1 + 1) := w64 (by omega)
  have hm : 0 ≤ 6 * (c1 + 1) * c2 ∧ 6 * (c1 + 1) * c2 ≤ 120 := by
    have a : 6 * (c1 + 1) * c2 ≤ 30 * c2 := Int.mul_le_mul_of_nonneg_right (by omega) (by omega)
    have b : 0 ≤ 6 * (c1 + 1) * c2 := Int.mul_nonneg (by omega) (by omega)
    omega
  have e3 : wrap64 (6 * (c1 + 1) * c2) = 6 * (c1 + 1) * c2 := w64 (by omega)
  have e4 : wrap64 (6 * (c1 + 1) * c2 + 1) = 6 * (c1 + 1) * c2 + 1 := w64 (by omega)
  unfold conf_numbers.f
  rw [e1, e2, e3, e4, Option.bind_some]
  refine (numbers_loop _ (by simp) 7 k 0 rfl (by omega)).trans ?_
  simp only [List.drop_zero, List.all_cons, List.all_nil, Bool.and_true, numbersB]
  congr 2
  cases h4 : inB c4 1 64 with
  | false => simp
  | true =>
    have := inB_true.1 h4
    rw [show wrap64 (c4 - 1) = c4 - 1 from w64 (by omega)]
theorem plain_eq (k : Nat) (hk : 8 ≤ k) (c0 c1 c2 c3 c4 c5 c6 c7 c8 c9 : Int) (l : List Int) : conf_Plain.f k c0 c1 c2 c3 c4 c5 c6 c7 c8 c9 l = some (plainE c0 c1 c2 c3 c4 c5 c6 c7 c8 c9 l) := by
  unfold conf_Plain.f plainE nodesB
  have hn : conf_nodes.f c0 c1 c2 c3 c4 c5 c6 c7 c8 c9 l = some (inB c0 4 13 && (inB c1 0 4 && decide (c0 > 3 * c1))) := by
    unfold conf_nodes.f
    simp only [has_eq, Option.bind_some]
    cases inB c0 4 13 with
    | false => rfl
    | true =>
      cases h1 : inB c1 0 4 with
      | false => rfl
      | true =>
        have := inB_true.1 h1
        rw [show wrap64 (3 * c1) = 3 * c1 from w64 (by omega)]
        rfl
  rw [hn, Option.bind_some]
  cases h0 : (inB c0 4 13 && (inB c1 0 4 && decide (c0 > 3 * c1))) with
  | false => rfl
  | true =>
    rw [if_pos rfl, if_pos rfl, has_eq, Option.bind_some]
    simp only [Bool.and_eq_true] at h0
    have g0 := inB_true.1 h0.1
    have g1 := inB_true.1 h0.2.1
    cases h2 : inB c2 1 4 with
    | false => rfl
    | true =>
      rw [if_pos rfl, if_pos rfl, numbers_eq k hk g1 (inB_true.1 h2), Option.bind_some]
      cases numbersB c1 c2 c3 c4 c5 c6 c7 c8 c9 with
      | false => rfl
      | true =>
        rw [if_pos rfl, if_pos rfl]
        unfold conf_table.f
        rw [if_pos (by omega), Option.bind_some]
        cases tblB c0 l <;> rfl
theorem tblCnt_mem (l : List Int) (i : Nat) : tblCnt l i ≠ 0 ↔ (i : Int) ∈ l := by
  unfold tblCnt
  constructor
  · intro h
    obtain ⟨x, hx⟩ : ∃ x, x ∈ l.filter fun n => n == (i : Int) := by
      cases he : l.filter fun n => n == (i : Int) with
      | nil => simp [he] at h
      | cons a b => exact ⟨a, by simp⟩
    simp at hx
    exact hx.2 ▸ hx.1
  · intro h
    have : (i : Int) ∈ l.filter fun n => n == (i : Int) := by simp [h]
    have := List.length_pos_of_mem this
    omega
theorem rd_get (l : List Int) (i : Nat) (h : i < l.length) : rd l (i : Int) = l[i] := by
  unfold rd
  simp [List.getD_eq_getElem?_getD, h]
theorem w64_succ {i : Nat} (h : i ≤ 1000000) : wrap64 ((i : Int) + 1) = ((i + 1 : Nat) : Int) := by unfold wrap64; omega
section
variable (c0 c1 c2 c3 c4 c5 c6 c7 c8 c9 : Int) (l : List Int)
theorem owned_l2 (hl : l.length ≤ 1000) (x : Int) : ∀ (d k j : Nat) (b : Bool), j + d = l.length → r03_owned.l2 (k + d + 1) x b (j : Int) c0 c1 c2 c3 c4 c5 c6 c7 c8 c9 l = if (b || (l.drop j).any fun y => y == x) = true then r03_owned.l1 k (wrap64 (x + 1)) c0 c1 c2 c3 c4 c5 c6 c7 c8 c9 l else some false
  | 0, k, j, b, h => by
    rw [r03_owned.l2]
    rw [if_neg (by omega), List.drop_of_length_le (by omega)]
    cases b <;> rfl
  | d + 1, k, j, b, h => by
    have hj : j < l.length := by omega
    rw [show k + (d + 1) + 1 = (k + d + 1) + 1 from by omega]
    rw [r03_owned.l2]
    rw [if_pos (by omega), w64_succ (by omega), List.drop_eq_getElem_cons hj, List.any_cons]
    cases b with
    | true =>
      rw [if_pos rfl, owned_l2 hl x d k (j + 1) true (by omega)]
      simp
    | false =>
      rw [if_neg (by simp), if_pos (by omega), owned_l2 hl x d k (j + 1) _ (by omega), rd_get l j hj]
      simp
open Classical in
theorem owned_l1 (hl : l.length ≤ 1000) (N : Nat) (hc : c0 = N) (hN : N ≤ 1000) : ∀ (e m n : Nat), n + e = N → r03_owned.l1 (e * (l.length + 2) + 1 + m) (n : Int) c0 c1 c2 c3 c4 c5 c6 c7 c8 c9 l = some (decide (∀ i : Nat, n ≤ i → i < N → (i : Int) ∈ l))
  | 0, m, n, h => by
    rw [show 0 * (l.length + 2) + 1 + m = m + 1 from by omega]
    rw [r03_owned.l1]
    rw [if_neg (by omega), decide_eq_true (fun i h1 h2 => by omega)]
  | e + 1, m, n, h => by
    rw [show (e + 1) * (l.length + 2) + 1 + m = ((e * (l.length + 2) + 1 + m) + l.length + 1) + 1 from by rw [Nat.add_mul]; omega]
    rw [r03_owned.l1]
    rw [if_pos (by omega), show (0 : Int) = ((0 : Nat) : Int) from rfl, owned_l2 c0 c1 c2 c3 c4 c5 c6 c7 c8 c9 l hl (n : Int) l.length _ 0 false (by omega), List.drop_zero, w64_succ (by omega), owned_l1 hl N hc hN e m (n + 1) (by omega), Bool.false_or]
    by_cases hm : (n : Int) ∈ l
    · rw [if_pos (by rw [List.any_eq_true]; exact ⟨_, hm, by simp⟩)]
      congr 1
      rw [Bool.eq_iff_iff, decide_eq_true_iff, decide_eq_true_iff]
      constructor
      · intro hh i h1 h2
        by_cases e : i = n
        · rw [e]; exact hm
        · exact hh i (by omega) h2
      · intro hh i h1 h2
        exact hh i (by omega) h2
    · rw [if_neg (by
        rw [List.any_eq_true]
        rintro ⟨y, hy, he⟩
        simp at he
        exact hm (he ▸ hy)), decide_eq_false (fun hh => hm (hh n (Nat.le_refl _) (by omega)))]
theorem owned_l0 (hl : l.length ≤ 1000) (h0 : 0 ≤ c0 ∧ c0 ≤ 1000) : ∀ (d k j : Nat), j + d = l.length → r03_owned.l0 (k + d + 1) (j : Int) c0 c1 c2 c3 c4 c5 c6 c7 c8 c9 l = if ((l.drop j).all fun n => decide (0 ≤ n ∧ n < c0)) = true then r03_owned.l1 k 0 c0 c1 c2 c3 c4 c5 c6 c7 c8 c9 l else some false
  | 0, k, j, h => by
    rw [r03_owned.l0]
    rw [if_neg (by omega), List.drop_of_length_le (by omega)]
    rfl
  | d + 1, k, j, h => by
    have hj : j < l.length := by omega
    rw [show k + (d + 1) + 1 = (k + d + 1) + 1 from by omega]
    rw [r03_owned.l0]
    rw [if_pos (by omega), if_pos (by omega), w64_succ (by omega), within_eq, Option.bind_some, rd_get l j hj, List.drop_eq_getElem_cons hj, List.all_cons, show wrap64 (c0 - 1) = c0 - 1 from w64 (by omega)]
    have e : inB l[j] 0 (c0 - 1) = decide (0 ≤ l[j] ∧ l[j] < c0) := by
      unfold inB
      rw [Bool.eq_iff_iff, decide_eq_true_iff, decide_eq_true_iff]
      omega
    rw [e]
    cases decide (0 ≤ l[j] ∧ l[j] < c0) with
    | false => rfl
    | true =>
      rw [if_pos rfl, owned_l0 hl h0 d k (j + 1) (by omega)]
      simp
open Classical in
theorem owned_eq (k : Nat) (hk : 600 ≤ k) (h0 : 0 ≤ c0 ∧ c0 ≤ 13) (hl : 1 ≤ l.length ∧ l.length ≤ 32) : r03_owned.f k c0 c1 c2 c3 c4 c5 c6 c7 c8 c9 l = some (tblB c0 l) := by
  obtain ⟨N, hN⟩ := Int.eq_ofNat_of_zero_le h0.1
  unfold r03_owned.f tblB
  have hmul : N * (l.length + 2) ≤ 13 * 34 := Nat.mul_le_mul (by omega) (by omega)
  obtain ⟨m, hm⟩ : ∃ m, k = (N * (l.length + 2) + 1 + m) + l.length + 1 := ⟨k - (N * (l.length + 2) + 1 + l.length + 1), by omega⟩
  rw [hm, show (0 : Int) = ((0 : Nat) : Int) from rfl, owned_l0 c0 c1 c2 c3 c4 c5 c6 c7 c8 c9 l (by omega) (by omega) l.length _ 0 (by omega), List.drop_zero, decide_eq_true hl, Bool.true_and]
  cases (l.all fun n => decide (((0 : Nat) : Int) ≤ n ∧ n < c0)) with
  | false => rfl
  | true =>
    rw [if_pos rfl, Bool.true_and, show (0 : Int) = ((0 : Nat) : Int) from rfl, owned_l1 c0 c1 c2 c3 c4 c5 c6 c7 c8 c9 l (by omega) N hN (by omega) N m 0 (by omega)]
    congr 1
    rw [Bool.eq_iff_iff, decide_eq_true_iff, List.all_eq_true]
    constructor
    · intro h i hi
      exact decide_eq_true ((tblCnt_mem l i).2 (h i (by omega) (by rw [List.mem_range] at hi; omega)))
    · intro h i _ hi
      exact (tblCnt_mem l i).1 (of_decide_eq_true (h i (by rw [List.mem_range]; omega)))
theorem ref_plain_eq (k : Nat) (hk : 700 ≤ k) : r03_Plain.f k c0 c1 c2 c3 c4 c5 c6 c7 c8 c9 l = some (plainE c0 c1 c2 c3 c4 c5 c6 c7 c8 c9 l) := by
  obtain ⟨k, rfl⟩ : ∃ m, k = m + 2 := ⟨k - 2, by omega⟩
  have hj1t : r03_Plain.j1 (k + 1) true c0 c1 c2 c3 c4 c5 c6 c7 c8 c9 l = some 8 := by simp [r03_Plain.j1]
  have hj0t : r03_Plain.j0 (k + 2) true c0 c1 c2 c3 c4 c5 c6 c7 c8 c9 l = some 7 := by simp [r03_Plain.j0]
  have hj1f (h0 : 4 ≤ c0 ∧ c0 ≤ 13) : r03_Plain.j1 (k + 1) false c0 c1 c2 c3 c4 c5 c6 c7 c8 c9 l = some (if tblB c0 l = true then 0 else 11) := by
    simp only [r03_Plain.j1, within_eq, Option.bind_some]
    rw [if_neg (by decide)]
    cases h : inB (l.length : Int) 1 32 with
    | false =>
      have := inB_false.1 h
      have e : tblB c0 l = false := by unfold tblB; rw [decide_eq_false (by omega)]; rfl
      rw [e]; rfl
    | true =>
      have := inB_true.1 h
      rw [if_pos rfl, owned_eq c0 c1 c2 c3 c4 c5 c6 c7 c8 c9 l k (by omega) (by omega) (by omega), Option.bind_some]
      cases tblB c0 l <;> rfl
  unfold r03_Plain.f plainE nodesB
  rw [within_eq, Option.bind_some, within_eq, Option.bind_some, hj0t]
  cases h0 : inB c0 4 13 with
  | false => rfl
  | true =>
    rw [if_pos rfl]
    cases h1 : inB c1 0 4 with
    | false => rfl
    | true =>
      have g0 := inB_true.1 h0
      have g1 := inB_true.1 h1
      rw [if_pos rfl, show wrap64 (3 * c1) = 3 * c1 from w64 (by omega)]
      by_cases h3 : c0 > 3 * c1
      · rw [decide_eq_false (show ¬ c0 ≤ 3 * c1 by omega), decide_eq_true h3]
        rw [show (true && (true && true)) = true from rfl, if_pos rfl]
        simp only [r03_Plain.j0, within_eq, Option.bind_some]
        rw [if_neg (by decide)]
        cases h2 : inB c2 1 4 with
        | false => rfl
        | true =>
          have g2 := inB_true.1 h2
          have hm : 0 ≤ 6 * (c1 + 1) * c2 ∧ 6 * (c1 + 1) * c2 ≤ 120 := by
            have a : 6 * (c1 + 1) * c2 ≤ 30 * c2 := Int.mul_le_mul_of_nonneg_right (by omega) (by omega)
            have b : 0 ≤ 6 * (c1 + 1) * c2 := Int.mul_nonneg (by omega) (by omega)
            omega
          rw [if_pos rfl, if_pos rfl, show wrap64 (c1 + 1) = c1 + 1 from w64 (by omega), show wrap64 (6 * (c1 + 1)) = 6 * (c1 + 1) from w64 (by omega), show wrap64 (6 * (c1 + 1) * c2) = 6 * (c1 + 1) * c2 from w64 (by omega), show wrap64 (6 * (c1 + 1) * c2 + 1) = 6 * (c1 + 1) * c2 + 1 from w64 (by omega), hj1t]
          unfold numbersB
          cases inB c3 (6 * (c1 + 1) * c2 + 1) 400 with
          | false => rfl
          | true =>
            rw [if_pos rfl]
            cases h4 : inB c4 1 64 with
            | false => rfl
            | true =>
              have g4 := inB_true.1 h4
              rw [if_pos rfl, show wrap64 (c4 - 1) = c4 - 1 from w64 (by omega)]
              cases inB c5 0 (c4 - 1) with
              | false => rfl
              | true =>
                rw [if_pos rfl]
                cases inB c6 0 30000 with
                | false => rfl
                | true =>
                  rw [if_pos rfl]
                  cases inB c7 1 30000 with
                  | false => rfl
                  | true =>
                    rw [if_pos rfl]
                    cases inB c8 2 250 with
                    | false => rfl
                    | true =>
                      rw [if_pos rfl]
                      cases inB c9 1 100 with
                      | false => simp [hj1t]
                      | true => simp [hj1f g0]
      · rw [decide_eq_true (show c0 ≤ 3 * c1 by omega), decide_eq_false h3, hj0t]
        rfl
end
end Go.Proofs.Ytdnccjlfongdeaa.Facts
