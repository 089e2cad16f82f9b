import Derived.Test.YtjfcedhjmmnofaaZSchedOwnedGn3
import Derived.Test.YtjfcedhjmmnofaaZSchedOwnedGn0
import Derived.Test.YtjfcedhjmmnofaaZSchedOwnedGn1
import Derived.Test.YtjfcedhjmmnofaaZSchedOwnedGn11
import Derived.Test.YtjfcedhjmmnofaaZSchedOwnedGn14
import Derived.Test.YtjfcedhjmmnofaaZSchedOwnedRingFacts0
import Derived.Test.YtjfcedhjmmnofaaZSchedOwnedCommon
import Derived.Test.YtjfcedhjmmnofaaZSchedOwnedConfFacts
import Derived.Test.YtjfcedhjmmnofaaZSchedOwnedBoundFacts
import Derived.Test.YtjfcedhjmmnofaaZSchedOwnedGn5
import Derived.Test.YtjfcedhjmmnofaaZSchedOwnedGn7
import Derived.Test.YtjfcedhjmmnofaaZSchedOwnedGn8
namespace Go.Proofs.Ytjfcedhjmmnofaa.Facts
open Go.RowKit Go.Proofs.Ytjfcedhjmmnofaa.Gn Go.Proofs.YtjfcedhjmmnofaaW.PrintWords Go.Proofs.YtjfcedhjmmnofaaW.PrintLast
set_option linter.unusedVariables false
theorem ownedL_len (l : List Int) (node : Int) : ∀ k, (ownedL l node k).length ≤ k
  | 0 => Nat.le_refl _
  | k + 1 => by
    have := ownedL_len l node k
    rw [ownedL]
    split
    · rw [List.length_append]; exact Nat.succ_le_succ this
    · omega
section
variable (c0 c1 c2 c3 c4 c5 c6 c7 c8 c9 : Int) (l : List Int)
theorem rowned_l0 (node : Int) (hl : l.length ≤ 1000) : ∀ (d k j : Nat), j + d = l.length → d + 1 ≤ k → bellwetherref21_Owned.l0 k node (ownedL l node j) (j : Int) c0 c1 c2 c3 c4 c5 c6 c7 c8 c9 l = some (ownedL l node l.length)
  | 0, k, j, hj, hk => by
    obtain ⟨k, rfl, _⟩ := peel hk
    rw [bellwetherref21_Owned.l0, if_neg (by omega), show j = l.length from by omega]
  | d + 1, k, j, hj, hk => by
    obtain ⟨k, rfl, hk'⟩ := peel hk
    have ih := rowned_l0 node hl d k (j + 1) (by omega) hk'
    have hlen := ownedL_len l node j
    rw [ownedL] at ih
    rw [bellwetherref21_Owned.l0, if_pos (by omega), if_pos (by omega), w64_step (by omega), if_pos (show (ownedL l node j).length < 17592186044416 by omega)]
    by_cases c : rd l (j : Int) = node
    · rw [if_pos c] at ih ⊢
      exact ih
    · rw [if_neg c] at ih ⊢
      exact ih
theorem rowned_eq (node : Int) (k : Nat) (hk : 740 ≤ k) : bellwetherref21_Owned.f k c0 c1 c2 c3 c4 c5 c6 c7 c8 c9 l node = some (if plainE c0 c1 c2 c3 c4 c5 c6 c7 c8 c9 l = 0 then ownedL l node l.length else []) := by
  unfold bellwetherref21_Owned.f
  rw [ref_plain_eq _ _ _ _ _ _ _ _ _ _ _ k (by omega), Option.bind_some]
  by_cases hp : plainE c0 c1 c2 c3 c4 c5 c6 c7 c8 c9 l = 0
  · have h := plain_iff.1 hp
    have hl := h.len
    rw [if_pos hp, if_pos hp]
    exact rowned_l0 _ _ _ _ _ _ _ _ _ _ _ node (by omega) l.length k 0 (by omega) (by omega)
  · rw [if_neg hp, if_neg hp]
end
theorem known21 (k : Nat) (hk : 300 ≤ k) : bellwetherlaw21_known.f k = some true := leo_up bellwetherlaw21_known.mono hk (by decide +kernel)
end Go.Proofs.Ytjfcedhjmmnofaa.Facts
