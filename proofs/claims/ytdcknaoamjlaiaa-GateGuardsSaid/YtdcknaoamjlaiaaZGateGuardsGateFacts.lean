import Derived.Test.YtdcknaoamjlaiaaZGateGuardsGn0
import Derived.Test.YtdcknaoamjlaiaaZGateGuardsGn21
import Derived.Test.YtdcknaoamjlaiaaZGateGuardsGn3
import Derived.Test.YtdcknaoamjlaiaaZGateGuardsGn52
import Derived.Test.YtdcknaoamjlaiaaZGateGuardsGn39
import Derived.Test.YtdcknaoamjlaiaaZGateGuardsRingFacts0
import Derived.Test.YtdcknaoamjlaiaaZGateGuardsCommon
import Derived.Test.YtdcknaoamjlaiaaZGateGuardsConfFacts
import Derived.Test.YtdcknaoamjlaiaaZGateGuardsBoundFacts
import Derived.Test.YtdcknaoamjlaiaaZGateGuardsSchedFacts
import Derived.Test.YtdcknaoamjlaiaaZGateGuardsDueFacts
import Derived.Test.YtdcknaoamjlaiaaZGateGuardsSlotRing
namespace Go.Proofs.Ytdcknaoamjlaiaa.Facts
open Go.RowKit Go.Proofs.Ytdcknaoamjlaiaa.Gn Go.Proofs.YtdcknaoamjlaiaaW.PrintWords Go.Proofs.YtdcknaoamjlaiaaW.PrintLast
set_option linter.unusedVariables false
def openV (c : S24) (m : S44) (n : Int) : Int := if m.f8 ≥ 2 then (if plainE c.f0 c.f1 c.f2 c.f3 c.f4 c.f5 c.f6 c.f7 c.f8 c.f9 c.f10 = 0 then dueR c.f0 c.f1 c.f2 c.f3 c.f4 c.f5 c.f6 c.f7 c.f8 c.f9 c.f10 n ((m.f0 - m.f1) % 65536) m.f12 else -1) else -1
theorem sync_eq (m : S44) : gate_Sync.f m.f0 m.f1 m.f2 m.f3 m.f4 m.f5 m.f6 m.f7 m.f8 m.f9 m.f10 m.f11 m.f12 m.f13 m.f14 m.f15 m.f16 m.f17 m.f18.f0 m.f18.f1 m.f18.f2 m.f18.f3 m.f18.f4 m.f18.f5 = some (decide (m.f8 ≥ 2)) := rfl
theorem gopen_eq (c : S24) (m : S44) (n : Int) (k : Nat) (hk : 9 ≤ k) : gate_Open.f k c.f0 c.f1 c.f2 c.f3 c.f4 c.f5 c.f6 c.f7 c.f8 c.f9 c.f10 m.f0 m.f1 m.f2 m.f3 m.f4 m.f5 m.f6 m.f7 m.f8 m.f9 m.f10 m.f11 m.f12 m.f13 m.f14 m.f15 m.f16 m.f17 m.f18.f0 m.f18.f1 m.f18.f2 m.f18.f3 m.f18.f4 m.f18.f5 n = some (openV c m n) := by
  unfold gate_Open.f openV
  rw [sync_eq, Option.bind_some]
  by_cases h : m.f8 ≥ 2
  · rw [if_pos (decide_eq_true h), if_pos h, plain_eq k (by omega), Option.bind_some]
    obtain ⟨k, rfl, _⟩ := peel (m := 8) hk
    rw [gate_Open.j0]
    by_cases hp : plainE c.f0 c.f1 c.f2 c.f3 c.f4 c.f5 c.f6 c.f7 c.f8 c.f9 c.f10 = 0
    · rw [if_pos hp, if_neg (by rw [hp]; decide), elapsed_eq, Option.bind_some, due_eq _ _ _ _ _ _ _ _ _ _ _ _ _ _ k (by omega), Option.bind_some]
    · rw [if_neg hp, if_pos (bne_iff_ne.2 hp)]
  · rw [if_neg (by rw [decide_eq_false h]; decide), if_neg h]
    obtain ⟨k, rfl, _⟩ := peel (m := 8) hk
    rw [gate_Open.j0, if_pos rfl]
end Go.Proofs.Ytdcknaoamjlaiaa.Facts
