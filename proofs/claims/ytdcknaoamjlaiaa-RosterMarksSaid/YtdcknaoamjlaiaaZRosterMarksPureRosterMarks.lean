import Derived.Test.YtdcknaoamjlaiaaZRosterMarksStmtRosterMarks
import Derived.Test.YtdcknaoamjlaiaaZRosterMarksRosterFacts
import Derived.Test.YtdcknaoamjlaiaaZRosterMarksRosterLists
import Derived.Test.YtdcknaoamjlaiaaZRosterMarksRosterKnown
namespace Go.Proofs.Ytdcknaoamjlaiaa.Pure
open Go.RowKit Go.Proofs.Ytdcknaoamjlaiaa.Gn Go.Proofs.YtdcknaoamjlaiaaW.PrintWords Go.Proofs.YtdcknaoamjlaiaaW.PrintLast Go.Proofs.Ytdcknaoamjlaiaa.Facts Go.Proofs.Ytdcknaoamjlaiaa.Opens
theorem RosterMarks : Gn.RosterMarks.Pure := by
  intro c a b l _ _ _ _
  refine ⟨1000, ?_⟩
  have hj : bellwetherlaw25_RosterMarks.j0 1000 a b l true c.f0 c.f1 c.f2 c.f3 c.f4 c.f5 c.f6 c.f7 c.f8 c.f9 c.f10 = some true := by
    rw [bellwetherlaw25_RosterMarks.j0, if_pos rfl, known25 999 (by omega)]
    rfl
  unfold bellwetherlaw25_RosterMarks.f
  by_cases h1 : (a.size : Int) > 100
  · rw [if_pos h1]; exact hj
  rw [if_neg h1]
  by_cases h2 : (b.size : Int) > 100
  · rw [if_pos h2]; exact hj
  rw [if_neg h2]
  by_cases h3 : (l.length : Int) > 40
  · rw [decide_eq_true h3]; exact hj
  rw [decide_eq_false h3, bellwetherlaw25_RosterMarks.j0, if_neg (by decide), blank_eq _ _ _ _ _ _ _ _ _ _ _ 999 (by omega), Option.bind_some, rblank_eq _ _ _ _ _ _ _ _ _ _ _ 999 (by omega), Option.bind_some, if_pos rfl, mark_eq _ _ _ _ _ _ _ _ _ _ _ _ _ (by omega) 999 (by omega), Option.bind_some, rrmark_eq _ _ _ _ _ _ _ _ _ _ _ _ _ (by omega) 999 (by omega), Option.bind_some, if_pos rfl, both_eq _ _ _ _ _ _ _ _ _ _ _ _ _ 999 (by omega), Option.bind_some, rboth_eq _ _ _ _ _ _ _ _ _ _ _ _ _ 999 (by omega), Option.bind_some, if_pos rfl, known25 999 (by omega)]
  rfl
end Go.Proofs.Ytdcknaoamjlaiaa.Pure
