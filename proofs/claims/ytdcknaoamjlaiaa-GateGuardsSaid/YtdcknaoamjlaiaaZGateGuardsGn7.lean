import Derived.Test.YtdcknaoamjlaiaaZGateGuardsGn0
import Derived.Test.YtdcknaoamjlaiaaZGateGuardsGn3
import Derived.Test.YtdcknaoamjlaiaaZGateGuardsGn6
import Derived.Shelf.Abstract
namespace Go.Proofs.Ytdcknaoamjlaiaa.Gn
open Go.RowKit Go.Proofs.YtdcknaoamjlaiaaW.PrintWords Go.Proofs.YtdcknaoamjlaiaaW.PrintLast Go.Proofs.YtdcknaoamjlaiaaW.PrintMore
attribute [local go_sem] max2_int min2_int max_two min_two max_three min_three max_four min_four   -- for this text's walks alone
set_option linter.unusedVariables false
set_option linter.unusedSimpArgs false
def roster_Has.f (a0 : ByteArray) (a1 : Int) : Option (Bool) := if a1 ≥ 0 then (if a1 < (a0.size : Int) then (if 0 ≤ a1 then (some ((bt a0 a1) == 49)) else (none)) else (some false)) else (some false)
def hasB (s : ByteArray) (i : Int) : Bool := decide (0 ≤ i) && decide (i < (s.size : Int)) && (bt s i == 49)
theorem has_eq (s : ByteArray) (i : Int) : roster_Has.f s i = some (hasB s i) := by
 unfold roster_Has.f hasB
 by_cases h0 : i ≥ 0
 ·rw [if_pos h0, decide_eq_true (show 0 ≤ i from h0)]
  by_cases h1 : i < (s.size : Int)
  ·rw [if_pos h1, if_pos (show 0 ≤ i from h0), decide_eq_true h1]; rfl
  ·rw [if_neg h1, decide_eq_false h1]; rfl
 ·rw [if_neg h0, decide_eq_false (show ¬ 0 ≤ i from h0)]; rfl
end Go.Proofs.Ytdcknaoamjlaiaa.Gn
