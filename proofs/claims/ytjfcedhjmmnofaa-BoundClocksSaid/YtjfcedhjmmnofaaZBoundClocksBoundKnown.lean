import Derived.Test.YtjfcedhjmmnofaaZBoundClocksGn15
import Derived.Test.YtjfcedhjmmnofaaZBoundClocksGn16
import Derived.Test.YtjfcedhjmmnofaaZBoundClocksRingFacts0
import Derived.Test.YtjfcedhjmmnofaaZBoundClocksConfFacts
import Derived.Test.YtjfcedhjmmnofaaZBoundClocksBoundFacts
namespace Go.Proofs.Ytjfcedhjmmnofaa.Facts
open Go.RowKit Go.Proofs.Ytjfcedhjmmnofaa.Gn Go.Proofs.YtjfcedhjmmnofaaW.PrintWords Go.Proofs.YtjfcedhjmmnofaaW.PrintLast
set_option linter.unusedSimpArgs false
set_option maxRecDepth 100000 in
theorem known04 (k : Nat) (hk : 8 ≤ k) : bellwetherlaw04_known.f k = some true := by
  have e1 : plainE 4 1 1 20 64 1 64 190 10 3 [0, 1, 2, 3] = 0 := by decide
  have e2 : rightE 4 1 1 20 64 1 64 190 10 3 [0, 1, 2, 3] = 0 := by decide
  have e3 : rightE 0 0 0 0 0 0 0 0 0 0 [] = 7 := by decide
  simp only [bellwetherlaw04_known.f, bellwetherlaw04_small.f, Option.bind_some, right_eq _ _ _ _ _ _ _ _ _ _ _ k hk, middle_eq _ _ _ _ _ _ _ _ _ _ _ k hk, begin_eq _ _ _ _ _ _ _ _ _ _ _ k hk, guard_eq _ _ _ _ _ _ _ _ _ _ _ k hk, settle_eq _ _ _ _ _ _ _ _ _ _ _ k hk, all_eq _ _ _ _ _ _ _ _ _ _ _ k hk, e1, e2, e3]
  decide
end Go.Proofs.Ytjfcedhjmmnofaa.Facts
