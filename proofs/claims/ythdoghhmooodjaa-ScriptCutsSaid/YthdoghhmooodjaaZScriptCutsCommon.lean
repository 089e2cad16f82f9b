import Derived.Test.YthdoghhmooodjaaZScriptCutsRingFacts0
namespace Go.Proofs.Ythdoghhmooodjaa.Facts
open Go.RowKit Go.Proofs.Ythdoghhmooodjaa.Gn Go.Proofs.YthdoghhmooodjaaW.PrintWords Go.Proofs.YthdoghhmooodjaaW.PrintLast
theorem peel {k m : Nat} (h : m + 1 ≤ k) : ∃ n, k = n + 1 ∧ m ≤ n := ⟨k - 1, by omega, by omega⟩
theorem w64_step {i : Nat} (h : i ≤ 1000000) : wrap64 ((i : Int) + 1) = ((i + 1 : Nat) : Int) := by unfold wrap64; omega
theorem rd_at (l : List Int) (i : Nat) (h : i < l.length) : rd l (i : Int) = l[i] := by
  unfold rd
  simp [List.getD_eq_getElem?_getD, h]
theorem leo_up {f : Nat → Option Bool} (h : ∀ k, LeO (f k) (f (k + 1))) {m k : Nat} (hk : m ≤ k) {b : Bool} (hm : f m = some b) : f k = some b := by
  obtain ⟨d, rfl⟩ : ∃ d, k = m + d := ⟨k - m, by omega⟩
  induction d with
  | zero => exact hm
  | succ d ih => exact h _ _ (ih (by omega))
end Go.Proofs.Ythdoghhmooodjaa.Facts
