import Derived.Test.YtdcknaoamjlaiaaZRosterAsksStmtRosterAsks
import Derived.Test.YtdcknaoamjlaiaaZRosterAsksRosterFacts
import Derived.Test.YtdcknaoamjlaiaaZRosterAsksRosterLists
import Derived.Test.YtdcknaoamjlaiaaZRosterAsksRosterKnown
namespace Go.Proofs.Ytdcknaoamjlaiaa.Pure
open Go.RowKit Go.Proofs.Ytdcknaoamjlaiaa.Gn Go.Proofs.YtdcknaoamjlaiaaW.PrintWords Go.Proofs.YtdcknaoamjlaiaaW.PrintLast Go.Proofs.Ytdcknaoamjlaiaa.Facts Go.Proofs.Ytdcknaoamjlaiaa.Opens
theorem RosterAsks : Gn.RosterAsks.Pure := by
  intro c a i _ _ _
  refine ⟨1000, ?_⟩
  unfold bellwetherlaw25_RosterAsks.f
  by_cases h1 : (a.size : Int) > 100
  · rw [if_pos h1, known25 1000 (by omega)]; rfl
  have hl := whr_len (hasB a) a.size
  have hl2 := whr_len (fun i => !hasB a i) (cl c.f0)
  have hc := cl_le c.f0
  rw [if_neg h1, has_eq, Option.bind_some, has25_eq, Option.bind_some, if_pos (by simp), count_eq a (by omega), Option.bind_some, rcount_eq a (by omega) 1000 (by omega), Option.bind_some, if_pos rfl, nodes_eq a (by omega), Option.bind_some, rnodes_eq a (by omega) 1000 (by omega), Option.bind_some, ints_eq _ (by omega) 1000 (by omega), Option.bind_some, if_pos rfl, lacks_eq _ _ _ _ _ _ _ _ _ _ _ _ 1000 (by omega), Option.bind_some, rlacks_eq _ _ _ _ _ _ _ _ _ _ _ _ 1000 (by omega), Option.bind_some, ints_eq _ (by omega) 1000 (by omega), Option.bind_some, if_pos rfl, known25 1000 (by omega)]
  rfl
end Go.Proofs.Ytdcknaoamjlaiaa.Pure
