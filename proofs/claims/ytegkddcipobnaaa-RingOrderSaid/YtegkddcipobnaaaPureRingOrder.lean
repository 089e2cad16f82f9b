/- RingOrder holds for every input: of two clocks less than half a turn apart just one is ahead, and steps add up. No condition. -/
import Derived.Test.YtegkddcipobnaaaGn3
import Derived.Test.YtegkddcipobnaaaRingFacts
import Derived.Test.YtegkddcipobnaaaRingKnown
namespace Go.Proofs.Ytegkddcipobnaaa.Pure
open Go.RowKit Go.Proofs.Ytegkddcipobnaaa.Gn Go.Proofs.YtegkddcipobnaaaW.PrintWords Go.Proofs.YtegkddcipobnaaaW.PrintLast Go.Proofs.Ytegkddcipobnaaa.Facts
theorem RingOrder : bellwetherlaw05_RingOrder.Pure := by
  intro a b c _ _ _
  refine ⟨1, ?_⟩
  have s0 : sgn a a = 0 := by unfold sgn; split <;> omega
  unfold bellwetherlaw05_RingOrder.f
  have hj : bellwetherlaw05_RingOrder.j0 1 a b c true = some true := by
    simp [bellwetherlaw05_RingOrder.j0, before_eq, known05, s0]
  by_cases h1 : b ≤ 0
  · rw [if_pos h1]; exact hj
  rw [if_neg h1]
  by_cases h2 : b ≥ 16384
  · rw [if_pos h2]; exact hj
  rw [if_neg h2]
  by_cases h3 : c ≤ 0
  · rw [if_pos h3]; exact hj
  rw [if_neg h3]
  by_cases h4 : c ≥ 16384
  · rw [decide_eq_true h4]; exact hj
  rw [decide_eq_false h4]
  have e1 : sgn a ((a + b) % 65536) = -b := by unfold sgn; split <;> omega
  have e2 : sgn ((a + b) % 65536) (((a + b) % 65536 + c) % 65536) = -c := by unfold sgn; split <;> omega
  have e3 : sgn a (((a + b) % 65536 + c) % 65536) = -(b + c) := by unfold sgn; split <;> omega
  have e4 : sgn ((a + b) % 65536) a = b := by unfold sgn; split <;> omega
  have e5 : sgn (((a + b) % 65536 + c) % 65536) a = b + c := by unfold sgn; split <;> omega
  have e6 : wrap64 (b + c) = b + c := w64 (by omega)
  simp only [bellwetherlaw05_RingOrder.j0, add_eq, before_eq, signed_eq, known05, Option.bind_some, e1, e2, e3, e4, e5, e6]
  rw [if_neg (by decide), if_pos (decide_eq_true (by omega)), if_pos (decide_eq_true (by omega)), if_pos (decide_eq_true (by omega)), if_neg (by simp; omega), if_neg (by simp; omega), if_pos trivial]
end Go.Proofs.Ytegkddcipobnaaa.Pure
