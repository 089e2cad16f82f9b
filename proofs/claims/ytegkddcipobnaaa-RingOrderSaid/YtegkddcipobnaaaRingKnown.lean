/- What must come of fixed calls of clocks. -/
import Derived.Test.YtegkddcipobnaaaGn1
import Derived.Test.YtegkddcipobnaaaRingFacts
namespace Go.Proofs.Ytegkddcipobnaaa.Facts
open Go.RowKit Go.Proofs.Ytegkddcipobnaaa.Gn Go.Proofs.YtegkddcipobnaaaW.PrintWords Go.Proofs.YtegkddcipobnaaaW.PrintLast
theorem known05 : bellwetherlaw05_known.f = some true := by
  simp [bellwetherlaw05_known.f, diff_eq, before_eq, signed_eq, add_eq, put_eq, sgn]
end Go.Proofs.Ytegkddcipobnaaa.Facts
