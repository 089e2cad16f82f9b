import Derived.Test.YtebflimijebbnaaZAcceptOwnersAcceptFacts
import Derived.Test.YtebflimijebbnaaZAcceptOwnersGn0
import Derived.Test.YtebflimijebbnaaZAcceptOwnersGn17
import Derived.Test.YtebflimijebbnaaZAcceptOwnersGn18
import Derived.Test.YtebflimijebbnaaZAcceptOwnersGn2
import Derived.Test.YtebflimijebbnaaZAcceptOwnersGn21
import Derived.Test.YtebflimijebbnaaZAcceptOwnersGn22
import Derived.Test.YtebflimijebbnaaZAcceptOwnersGn23
import Derived.Test.YtebflimijebbnaaZAcceptOwnersGn24
import Derived.Test.YtebflimijebbnaaZAcceptOwnersGn27
namespace Go.Proofs.Ytebflimijebbnaa.Facts
open Go.RowKit Go.Proofs.Ytebflimijebbnaa.Gn Go.Proofs.YtebflimijebbnaaW.PrintWords Go.Proofs.YtebflimijebbnaaW.PrintLast
open FactsM (hasB markV cl)
set_option linter.unusedVariables false
theorem mark_has (s : ByteArray) (n : Nat) (l : List Int) (i : Nat) : hasB (markV s n l) (i : Int) = (decide (i < n) && (hasB s (i : Int) || l.contains (i : Int))) := by
  by_cases h : i < n
  · rw [FactsM.hasB_in (by rw [FactsM.markV_size]; omega), decide_eq_true h, Bool.true_and]
    have e : bt (markV s n l) (i : Int) = FactsM.markI s l i := by
      unfold bt
      have hs : (i : Int).toNat < (markV s n l).size := by rw [FactsM.markV_size]; simpa using h
      rw [dif_pos hs]
      have : (markV s n l)[(i : Int).toNat]'hs = UInt8.ofNat (FactsM.markI s l i).toNat := by
        show ((((List.range n).map (FactsM.markI s l)).map fun (n : Int) => UInt8.ofNat n.toNat).toArray)[i]'_ = _
        simp
      rw [this]
      unfold FactsM.markI
      split <;> rfl
    rw [e]
    unfold FactsM.markI
    cases (hasB s (i : Int) || l.contains (i : Int)) <;> rfl
  · rw [FactsM.hasB_out (by rw [FactsM.markV_size]; omega), decide_eq_false h]
    rfl
theorem mark_at (s : ByteArray) (a i : Int) (h : 0 ≤ i) (h1 : i < a) (h2 : a ≤ 64) : hasB (markV s (cl a) [i]) i = true := by
  obtain ⟨j, rfl⟩ : ∃ j : Nat, i = j := ⟨i.toNat, by omega⟩
  rw [mark_has]
  have := FactsM.cl_id (a := a) (by omega) h2
  simp
  omega
end Go.Proofs.Ytebflimijebbnaa.Facts
