/- RingReckons holds for every input: put, added, taken from one another, signed and compared, clocks are as the reference has them. No condition. -/
import Derived.Test.YtegkddcipobnaaaGn2
import Derived.Test.YtegkddcipobnaaaRingFacts
import Derived.Test.YtegkddcipobnaaaRingRef
import Derived.Test.YtegkddcipobnaaaRingKnown
namespace Go.Proofs.Ytegkddcipobnaaa.Pure
open Go.RowKit Go.Proofs.Ytegkddcipobnaaa.Gn Go.Proofs.YtegkddcipobnaaaW.PrintWords Go.Proofs.YtegkddcipobnaaaW.PrintLast Go.Proofs.Ytegkddcipobnaaa.Facts
theorem RingReckons : bellwetherlaw05_RingReckons.Pure := by
  intro a b _ _
  simp [bellwetherlaw05_RingReckons.f, put_eq, ref_put_eq, add_eq, ref_add_eq, diff_eq, ref_diff_eq, signed_eq, ref_signed_eq, before_eq, ref_before_eq, known05]
end Go.Proofs.Ytegkddcipobnaaa.Pure
