import Derived.Test.YtdnccjlfongdeaaZRoundOnlyRingFacts0
namespace Go.Proofs.Ytdnccjlfongdeaa.Facts
open Go.RowKit Go.Proofs.Ytdnccjlfongdeaa.Gn Go.Proofs.YtdnccjlfongdeaaW.PrintWords Go.Proofs.YtdnccjlfongdeaaW.PrintLast
theorem peel {k m : Nat} (h : m + 1 ≤ k) : ∃ n, k = n + 1 ∧ m ≤ n := ⟨k - 1, by omega, by omega⟩
theorem w64_step {i : Nat} (h : i ≤ 1000000) : wrap64 ((i : Int) + 1) = ((i + 1 : Nat) : Int) := by unfold wrap64; omega
theorem rd_at (l : List Int) (i : Nat) (h : i < l.length) : rd l (i : Int) = l[i] := by
  unfold rd
  simp [List.getD_eq_getElem?_getD, h]
theorem set_mid {α : Type} (a : List α) (x y : α) (b : List α) (j : Nat) (h : a.length = j) : (a ++ x :: b).set j y = a ++ y :: b := by
  subst h
  rw [List.set_append_right _ _ (Nat.le_refl _), Nat.sub_self]
  rfl
theorem leo_up {f : Nat → Option Bool} (h : ∀ k, LeO (f k) (f (k + 1))) {m k : Nat} (hk : m ≤ k) {b : Bool} (hm : f m = some b) : f k = some b := by
  obtain ⟨d, rfl⟩ : ∃ d, k = m + d := ⟨k - m, by omega⟩
  induction d with
  | zero => exact hm
  | succ d ih => exact h _ _ (ih (by omega))
theorem tmod_pos (a m : Int) (hm : 1 ≤ m ∧ m ≤ 1000) : (if Int.tmod a m < 0 then wrap64 (Int.tmod a m + m) else Int.tmod a m) = a % m := by
  have h0 := Int.emod_nonneg a (show m ≠ 0 by omega)
  have h1 := Int.emod_lt_of_pos a (show 0 < m by omega)
  have h := Int.tmod_eq_emod (a := a) (b := m)
  by_cases c : 0 ≤ a ∨ m ∣ a
  · rw [if_pos c] at h
    rw [if_neg (by omega)]
    omega
  · rw [if_neg c] at h
    have : ((m.natAbs : Nat) : Int) = m := by omega
    rw [if_pos (by omega), w64 (by omega)]
    omega
end Go.Proofs.Ytdnccjlfongdeaa.Facts
