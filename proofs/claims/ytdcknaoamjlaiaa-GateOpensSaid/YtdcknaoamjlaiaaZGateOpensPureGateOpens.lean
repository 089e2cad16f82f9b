import Derived.Test.YtdcknaoamjlaiaaZGateOpensStmtGateOpens
import Derived.Test.YtdcknaoamjlaiaaZGateOpensSlotRing
import Derived.Test.YtdcknaoamjlaiaaZGateOpensGateMarks
import Derived.Test.YtdcknaoamjlaiaaZGateOpensGateKnown
namespace Go.Proofs.Ytdcknaoamjlaiaa.Pure
open Go.RowKit Go.Proofs.Ytdcknaoamjlaiaa.Gn Go.Proofs.YtdcknaoamjlaiaaW.PrintWords Go.Proofs.YtdcknaoamjlaiaaW.PrintLast Go.Proofs.Ytdcknaoamjlaiaa.Facts Go.Proofs.Ytdcknaoamjlaiaa.Opens
theorem GateOpens : Gn.GateOpens.Pure := by
  intro c m n l _ _ _ _
  refine ⟨1000, ?_⟩
  have hj : bellwetherlaw23_GateOpens.j0 1000 n l true c.f0 c.f1 c.f2 c.f3 c.f4 c.f5 c.f6 c.f7 c.f8 c.f9 c.f10 m.f0 m.f1 m.f2 m.f3 m.f4 m.f5 m.f6 m.f7 m.f8 m.f9 m.f10 m.f11 m.f12 m.f13 m.f14 m.f15 m.f16 m.f17 m.f18.f0 m.f18.f1 m.f18.f2 m.f18.f3 m.f18.f4 m.f18.f5 = some true := by
    rw [bellwetherlaw23_GateOpens.j0, if_pos rfl, known23 999 (by omega)]
    rfl
  unfold bellwetherlaw23_GateOpens.f
  by_cases h1 : (m.f12.size : Int) > 100
  · rw [if_pos h1]; exact hj
  rw [if_neg h1]
  by_cases h2 : (l.length : Int) > 40
  · rw [decide_eq_true h2]; exact hj
  rw [decide_eq_false h2, bellwetherlaw23_GateOpens.j0, if_neg (by decide), sync_eq, Option.bind_some, rsync_eq, Option.bind_some, if_pos (beq_self_eq_true _), FactsM.gmark_eq _ _ _ (by omega) 999 (by omega), Option.bind_some, FactsM.rmark_eq _ _ _ (by omega) 999 (by omega), Option.bind_some, if_pos rfl, gopen_eq _ _ _ 999 (by omega), Option.bind_some, ropen_eq _ _ _ 999 (by omega), Option.bind_some, if_pos rfl, known23 999 (by omega)]
  rfl
end Go.Proofs.Ytdcknaoamjlaiaa.Pure
