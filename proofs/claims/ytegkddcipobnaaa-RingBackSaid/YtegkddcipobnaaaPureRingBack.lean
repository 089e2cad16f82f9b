/- RingBack holds for every input: a clock that went some units is those units behind where it was. No condition. -/
import Derived.Test.YtegkddcipobnaaaGn2
import Derived.Test.YtegkddcipobnaaaRingFacts
import Derived.Test.YtegkddcipobnaaaRingKnown
namespace Go.Proofs.Ytegkddcipobnaaa.Pure
open Go.RowKit Go.Proofs.Ytegkddcipobnaaa.Gn Go.Proofs.YtegkddcipobnaaaW.PrintWords Go.Proofs.YtegkddcipobnaaaW.PrintLast Go.Proofs.Ytegkddcipobnaaa.Facts
theorem RingBack : bellwetherlaw05_RingBack.Pure := by
  intro a b _ _
  simp only [bellwetherlaw05_RingBack.f, put_eq, add_eq, diff_eq, known05, Option.bind_some]
  have e1 : wrap64 (((a + b) % 65536 - a) % 65536 + (a - (a + b) % 65536) % 65536) = ((a + b) % 65536 - a) % 65536 + (a - (a + b) % 65536) % 65536 := w64 (by omega)
  rw [e1, if_pos (by omega), if_pos (by omega), if_pos (by omega)]
  by_cases h : ((a + b) % 65536 - a) % 65536 + (a - (a + b) % 65536) % 65536 = 0
  · rw [if_pos h, if_pos (by omega)]
  · rw [if_neg h, if_pos (by omega), if_neg (by omega)]
end Go.Proofs.Ytegkddcipobnaaa.Pure
