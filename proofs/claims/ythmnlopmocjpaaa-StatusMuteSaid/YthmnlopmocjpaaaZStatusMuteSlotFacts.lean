import Derived.Test.YthmnlopmocjpaaaZStatusMuteGn8
import Derived.Test.YthmnlopmocjpaaaZStatusMuteGn0
import Derived.Test.YthmnlopmocjpaaaZStatusMuteGn2
import Derived.Test.YthmnlopmocjpaaaZStatusMuteRingFacts0
import Derived.Test.YthmnlopmocjpaaaZStatusMuteCommon
import Derived.Test.YthmnlopmocjpaaaZStatusMuteConfFacts
import Derived.Test.YthmnlopmocjpaaaZStatusMuteBoundFacts
import Derived.Test.YthmnlopmocjpaaaZStatusMuteSchedFacts
import Derived.Test.YthmnlopmocjpaaaZStatusMuteSlotRing
namespace Go.Proofs.Ythmnlopmocjpaaa.Facts
open Go.RowKit Go.Proofs.Ythmnlopmocjpaaa.Gn Go.Proofs.YthmnlopmocjpaaaW.PrintWords Go.Proofs.YthmnlopmocjpaaaW.PrintLast
set_option linter.unusedVariables false
section
variable (c0 c1 c2 c3 c4 c5 c6 c7 c8 c9 : Int) (l : List Int)
def nowV (e : Int) : Int := if plainE c0 c1 c2 c3 c4 c5 c6 c7 c8 c9 l = 0 then slotV c6 c7 l.length e else -1
theorem now_eq (a b : Int) (k : Nat) (hk : 9 ≤ k) : slot_Now.f k c0 c1 c2 c3 c4 c5 c6 c7 c8 c9 l a b = some (nowV c0 c1 c2 c3 c4 c5 c6 c7 c8 c9 l ((a - b) % 65536)) := by
  unfold slot_Now.f nowV
  rw [elapsed_eq, Option.bind_some, slot_eq _ _ _ _ _ _ _ _ _ _ _ _ (by omega) k hk]
  rfl
end
end Go.Proofs.Ythmnlopmocjpaaa.Facts
