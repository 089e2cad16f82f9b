import Derived.Test.YtdcknaoamjlaiaaZSlotPlacesGn39
import Derived.Test.YtdcknaoamjlaiaaZSlotPlacesGn0
import Derived.Test.YtdcknaoamjlaiaaZSlotPlacesGn2
import Derived.Test.YtdcknaoamjlaiaaZSlotPlacesGn38
import Derived.Test.YtdcknaoamjlaiaaZSlotPlacesRingFacts0
import Derived.Test.YtdcknaoamjlaiaaZSlotPlacesConfFacts
import Derived.Test.YtdcknaoamjlaiaaZSlotPlacesBoundFacts
namespace Go.Proofs.Ytdcknaoamjlaiaa.Facts
open Go.RowKit Go.Proofs.Ytdcknaoamjlaiaa.Gn Go.Proofs.YtdcknaoamjlaiaaW.PrintWords Go.Proofs.YtdcknaoamjlaiaaW.PrintLast
set_option linter.unusedVariables false
set_option linter.unusedSimpArgs false
section
variable (c0 c1 c2 c3 c4 c5 c6 c7 c8 c9 : Int) (l : List Int)
theorem ref_begin_eq (k : Nat) (hk : 700 ≤ k) (i : Int) : bellwetherref04_Begin.f k c0 c1 c2 c3 c4 c5 c6 c7 c8 c9 l i = some (if plainE c0 c1 c2 c3 c4 c5 c6 c7 c8 c9 l = 0 ∧ 0 ≤ i ∧ i < l.length then beginV c6 c7 i else 0) := by
  unfold bellwetherref04_Begin.f
  rw [ref_plain_eq _ _ _ _ _ _ _ _ _ _ _ k hk, Option.bind_some]
  by_cases hp : plainE c0 c1 c2 c3 c4 c5 c6 c7 c8 c9 l = 0
  · rw [if_pos hp]
    by_cases h0 : i < 0
    · rw [if_pos h0, if_neg (by omega)]
    · rw [if_neg h0]
      by_cases h1 : i ≥ l.length
      · rw [if_pos h1, if_neg (by omega)]
      · rw [if_neg h1, if_pos ⟨hp, by omega, by omega⟩, begin_w (plain_iff.1 hp) ⟨by omega, by omega⟩]
  · rw [if_neg hp, if_neg (fun x => hp x.1)]
end
end Go.Proofs.Ytdcknaoamjlaiaa.Facts
