import Derived.Test.YtdcknaoamjlaiaaZGateSendsStmtGateSends
import Derived.Test.YtdcknaoamjlaiaaZGateSendsGateSendFacts
namespace Go.Proofs.Ytdcknaoamjlaiaa.Pure
open Go.RowKit Go.Proofs.Ytdcknaoamjlaiaa.Gn Go.Proofs.YtdcknaoamjlaiaaW.PrintWords Go.Proofs.YtdcknaoamjlaiaaW.PrintLast Go.Proofs.Ytdcknaoamjlaiaa.Facts Go.Proofs.Ytdcknaoamjlaiaa.Opens
theorem GateSends : Gn.GateSends.Pure := by
  intro c m n p _ _ _ _
  refine ⟨1000, ?_⟩
  unfold bellwetherlaw23_GateSends.f
  rw [known23 1000 (by omega)]
  by_cases h1 : (m.f12.size : Int) > 100
  · rw [if_pos h1]
    rfl
  rw [if_neg h1, gsend_eq _ _ _ _ 1000 (by omega), Option.bind_some, rsend_eq _ _ _ _ 1000 (by omega), Option.bind_some, gguard_eq _ _ _ _ 1000 (by omega), Option.bind_some, rguard_eq _ _ _ _ 1000 (by omega), Option.bind_some, if_pos (by simp), if_pos (by simp), if_pos rfl, if_pos rfl]
  rfl
end Go.Proofs.Ytdcknaoamjlaiaa.Pure
