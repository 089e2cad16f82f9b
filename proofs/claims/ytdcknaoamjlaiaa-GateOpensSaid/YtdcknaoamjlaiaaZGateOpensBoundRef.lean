import Derived.Test.YtdcknaoamjlaiaaZGateOpensGn40
import Derived.Test.YtdcknaoamjlaiaaZGateOpensGn44
import Derived.Test.YtdcknaoamjlaiaaZGateOpensGn0
import Derived.Test.YtdcknaoamjlaiaaZGateOpensGn3
import Derived.Test.YtdcknaoamjlaiaaZGateOpensGn39
import Derived.Test.YtdcknaoamjlaiaaZGateOpensRingFacts0
import Derived.Test.YtdcknaoamjlaiaaZGateOpensConfFacts
import Derived.Test.YtdcknaoamjlaiaaZGateOpensBoundFacts
namespace Go.Proofs.Ytdcknaoamjlaiaa.Facts
open Go.RowKit Go.Proofs.Ytdcknaoamjlaiaa.Gn Go.Proofs.YtdcknaoamjlaiaaW.PrintWords Go.Proofs.YtdcknaoamjlaiaaW.PrintLast
set_option linter.unusedVariables false
set_option linter.unusedSimpArgs false
section
variable (c0 c1 c2 c3 c4 c5 c6 c7 c8 c9 : Int) (l : List Int)
theorem ref_begin_eq (k : Nat) (hk : 700 ≤ k) (i : Int) : bellwetherref04_Begin.f k c0 c1 c2 c3 c4 c5 c6 c7 c8 c9 l i = some (if plainE c0 c1 c2 c3 c4 c5 c6 c7 c8 c9 l = 0 ∧ 0 ≤ i ∧ i < l.length then beginV c6 c7 i else 0) := by
  unfold bellwetherref04_Begin.f
  rw [ref_plain_eq _ _ _ _ _ _ _ _ _ _ _ k hk, Option.bind_some]
  by_cases hp : plainE c0 c1 c2 c3 c4 c5 c6 c7 c8 c9 l = 0
  · rw [if_pos hp]
    by_cases h0 : i < 0
    · rw [if_pos h0, if_neg (by omega)]
    · rw [if_neg h0]
      by_cases h1 : i ≥ l.length
      · rw [if_pos h1, if_neg (by omega)]
      · rw [if_neg h1, if_pos ⟨hp, by omega, by omega⟩, begin_w (plain_iff.1 hp) ⟨by omega, by omega⟩]
  · rw [if_neg hp, if_neg (fun x => hp x.1)]
theorem ref_middle_eq (k : Nat) (hk : 700 ≤ k) (i : Int) : bellwetherref04_Middle.f k c0 c1 c2 c3 c4 c5 c6 c7 c8 c9 l i = some (if plainE c0 c1 c2 c3 c4 c5 c6 c7 c8 c9 l = 0 ∧ 0 ≤ i ∧ i < l.length then middleV c6 c7 i else 0) := by
  unfold bellwetherref04_Middle.f
  rw [ref_plain_eq _ _ _ _ _ _ _ _ _ _ _ k hk, Option.bind_some]
  by_cases hp : plainE c0 c1 c2 c3 c4 c5 c6 c7 c8 c9 l = 0
  · rw [if_pos hp]
    by_cases h0 : i < 0
    · rw [if_pos h0, if_neg (by omega)]
    · rw [if_neg h0]
      by_cases h1 : i ≥ l.length
      · rw [if_pos h1, if_neg (by omega)]
      · have hi : 0 ≤ i ∧ i < l.length := ⟨by omega, by omega⟩
        rw [if_neg h1, ref_begin_eq _ _ _ _ _ _ _ _ _ _ _ k hk, Option.bind_some, if_pos ⟨hp, hi⟩, if_pos ⟨hp, hi⟩, middle_w (plain_iff.1 hp) hi]
  · rw [if_neg hp, if_neg (fun x => hp x.1)]
end
end Go.Proofs.Ytdcknaoamjlaiaa.Facts
