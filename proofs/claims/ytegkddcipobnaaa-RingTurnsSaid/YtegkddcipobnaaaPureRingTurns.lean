/- RingTurns holds for every input: where clocks begin does not matter. No condition. -/
import Derived.Test.YtegkddcipobnaaaGn2
import Derived.Test.YtegkddcipobnaaaRingFacts
import Derived.Test.YtegkddcipobnaaaRingKnown
namespace Go.Proofs.Ytegkddcipobnaaa.Pure
open Go.RowKit Go.Proofs.Ytegkddcipobnaaa.Gn Go.Proofs.YtegkddcipobnaaaW.PrintWords Go.Proofs.YtegkddcipobnaaaW.PrintLast Go.Proofs.Ytegkddcipobnaaa.Facts
theorem RingTurns : bellwetherlaw05_RingTurns.Pure := by
  intro a b c _ _ _
  have e : ((a + c) % 65536 - (b + c) % 65536) % 65536 = (a - b) % 65536 := by omega
  have s : sgn ((a + c) % 65536) ((b + c) % 65536) = sgn a b := by unfold sgn; rw [e]
  simp only [bellwetherlaw05_RingTurns.f, add_eq, diff_eq, signed_eq, before_eq, known05, Option.bind_some, e, s, if_true, beq_self_eq_true]
end Go.Proofs.Ytegkddcipobnaaa.Pure
