import Derived.Test.YtebflimijebbnaaZAcceptOwnersGn8
import Derived.Test.YtebflimijebbnaaZAcceptOwnersGn0
import Derived.Test.YtebflimijebbnaaZAcceptOwnersGn2
import Derived.Test.YtebflimijebbnaaZAcceptOwnersGn22
import Derived.Test.YtebflimijebbnaaZAcceptOwnersGn24
import Derived.Test.YtebflimijebbnaaZAcceptOwnersRingFacts0
import Derived.Test.YtebflimijebbnaaZAcceptOwnersConfFacts
import Derived.Test.YtebflimijebbnaaZAcceptOwnersBoundFacts
import Derived.Test.YtebflimijebbnaaZAcceptOwnersBoundRef
import Derived.Test.YtebflimijebbnaaZAcceptOwnersSchedFacts
namespace Go.Proofs.Ytebflimijebbnaa.Facts
open Go.RowKit Go.Proofs.Ytebflimijebbnaa.Gn Go.Proofs.YtebflimijebbnaaW.PrintWords Go.Proofs.YtebflimijebbnaaW.PrintLast
set_option linter.unusedVariables false
section
variable (c0 c1 c2 c3 c4 c5 c6 c7 c8 c9 : Int) (l : List Int)
def lowV (i : Int) : Int := middleV c6 c7 i + c2 * c4 - guardV c2 c4 c5 c6 c7 l.length
def highV (i : Int) : Int := middleV c6 c7 i + c2 * c4 + guardV c2 c4 c5 c6 c7 l.length
def windowV (i : Int) : Int × Int := if plainE c0 c1 c2 c3 c4 c5 c6 c7 c8 c9 l = 0 ∧ 0 ≤ i ∧ i < l.length then (lowV c2 c4 c5 c6 c7 l i, highV c2 c4 c5 c6 c7 l i) else (0, 0)
theorem window_bd (h : Plain c0 c1 c2 c3 c4 c5 c6 c7 c8 c9 l) {i : Int} (hi : 0 ≤ i ∧ i < l.length) : wrap64 (wrap64 (middleV c6 c7 i + wrap64 (c2 * c4)) - guardV c2 c4 c5 c6 c7 l.length) = lowV c2 c4 c5 c6 c7 l i ∧ wrap64 (wrap64 (middleV c6 c7 i + wrap64 (c2 * c4)) + guardV c2 c4 c5 c6 c7 l.length) = highV c2 c4 c5 c6 c7 l i := by
  have hm := middle_bd h hi
  have hg := guard_bd h
  have hd := h.d
  have hr := h.r
  have b := mul_bd (x := c2) (y := c4) (a := 4) (b := 64) ⟨by omega, by omega⟩ ⟨by omega, by omega⟩
  rw [w64 (a := c2 * c4) (by omega), w64 (a := middleV c6 c7 i + c2 * c4) (by omega), w64 (by omega), w64 (by omega)]
  exact ⟨rfl, rfl⟩
theorem window_eq (i : Int) (k : Nat) (hk : 9 ≤ k) : slot_Window.f k c0 c1 c2 c3 c4 c5 c6 c7 c8 c9 l i = some (windowV c0 c1 c2 c3 c4 c5 c6 c7 c8 c9 l i) := by
  unfold slot_Window.f windowV
  rw [owner_eq _ _ _ _ _ _ _ _ _ _ _ _ k hk, Option.bind_some]
  unfold ownerV
  by_cases c : plainE c0 c1 c2 c3 c4 c5 c6 c7 c8 c9 l = 0 ∧ 0 ≤ i ∧ i < l.length
  · have h := plain_iff.1 c.1
    have := rd_owner _ _ _ _ _ _ _ _ _ _ _ h c.2
    obtain ⟨e1, e2⟩ := window_bd _ _ _ _ _ _ _ _ _ _ _ h c.2
    rw [if_pos c, if_pos c, if_neg (by omega), middle_eq _ _ _ _ _ _ _ _ _ _ _ k (by omega), Option.bind_some, if_pos c, guard_eq _ _ _ _ _ _ _ _ _ _ _ k (by omega), Option.bind_some, if_pos c.1, e1, e2]
  · rw [if_neg c, if_neg c, if_pos rfl]
end
end Go.Proofs.Ytebflimijebbnaa.Facts
