import Derived.Test.YtjfcedhjmmnofaaZSchedOwnedStmtSchedOwned
import Derived.Test.YtjfcedhjmmnofaaZSchedOwnedDueFacts
namespace Go.Proofs.Ytjfcedhjmmnofaa.Pure
open Go.RowKit Go.Proofs.Ytjfcedhjmmnofaa.Gn Go.Proofs.YtjfcedhjmmnofaaW.PrintWords Go.Proofs.YtjfcedhjmmnofaaW.PrintLast Go.Proofs.Ytjfcedhjmmnofaa.Facts Go.Proofs.Ytjfcedhjmmnofaa.Opens
theorem SchedOwned : Gn.SchedOwned.Pure := by
  intro c n s _ _ _
  refine ⟨1000, ?_⟩
  unfold bellwetherlaw21_SchedOwned.f
  rw [plain_eq 1000 (by omega), Option.bind_some, rowned_eq _ _ _ _ _ _ _ _ _ _ _ _ 1000 (by omega), Option.bind_some, known21 1000 (by omega), Option.bind_some]
  rw [if_pos]
  refine ⟨rfl, ?_⟩
  by_cases hp : plainE c.f0 c.f1 c.f2 c.f3 c.f4 c.f5 c.f6 c.f7 c.f8 c.f9 c.f10 = 0
  · rw [if_pos hp, beq_iff_eq.2 hp, if_pos rfl]
  · rw [if_neg hp, beq_eq_false_iff_ne.2 hp, if_neg (by decide)]
    rfl
end Go.Proofs.Ytjfcedhjmmnofaa.Pure
