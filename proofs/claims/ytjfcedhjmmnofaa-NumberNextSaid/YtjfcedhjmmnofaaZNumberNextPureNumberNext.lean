import Derived.Test.YtjfcedhjmmnofaaZNumberNextStmtNumberNext
import Derived.Test.YtjfcedhjmmnofaaZNumberNextNumberFacts
namespace Go.Proofs.Ytjfcedhjmmnofaa.Pure
open Go.RowKit Go.Proofs.Ytjfcedhjmmnofaa.Gn Go.Proofs.YtjfcedhjmmnofaaW.PrintWords Go.Proofs.YtjfcedhjmmnofaaW.PrintLast Go.Proofs.Ytjfcedhjmmnofaa.Facts Go.Proofs.Ytjfcedhjmmnofaa.Opens
theorem NumberNext : Gn.NumberNext.Pure := by
  intro c a s t _ _ _ _
  refine ⟨1000, ?_⟩
  have hj : bellwetherlaw20_NumberNext.j0 1000 a s t true c.f0 c.f1 c.f2 c.f3 c.f4 c.f5 c.f6 c.f7 c.f8 c.f9 c.f10 = some true := by
    rw [bellwetherlaw20_NumberNext.j0, if_pos rfl, known20 999 (by omega)]
    rfl
  unfold bellwetherlaw20_NumberNext.f
  by_cases h1 : (s.size : Int) > 60
  · rw [if_pos h1]; exact hj
  rw [if_neg h1]
  by_cases h2 : (t.size : Int) > 60
  · rw [decide_eq_true h2]; exact hj
  rw [decide_eq_false h2, bellwetherlaw20_NumberNext.j0, if_neg (by decide), next_eq _ _ _ _ _ _ _ _ _ _ _ _ _ 999 (by omega), Option.bind_some, rnext_eq _ _ _ _ _ _ _ _ _ _ _ _ _ 999 (by omega), Option.bind_some, if_pos rfl, members_eq _ _ _ _ _ _ _ _ _ _ _ _ _ 999 (by omega), Option.bind_some, rmembers_eq _ _ _ _ _ _ _ _ _ _ _ _ _ 999 (by omega), Option.bind_some, if_pos rfl, known20 999 (by omega)]
  rfl
end Go.Proofs.Ytjfcedhjmmnofaa.Pure
