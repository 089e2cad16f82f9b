import Derived.Test.YtjfcedhjmmnofaaZNumberRowsStmtNumberRows
import Derived.Test.YtjfcedhjmmnofaaZNumberRowsNumberFacts
namespace Go.Proofs.Ytjfcedhjmmnofaa.Pure
open Go.RowKit Go.Proofs.Ytjfcedhjmmnofaa.Gn Go.Proofs.YtjfcedhjmmnofaaW.PrintWords Go.Proofs.YtjfcedhjmmnofaaW.PrintLast Go.Proofs.Ytjfcedhjmmnofaa.Facts Go.Proofs.Ytjfcedhjmmnofaa.Opens
theorem NumberRows : Gn.NumberRows.Pure := by
  intro c a b n _ _ _ _
  refine ⟨4000, ?_⟩
  unfold bellwetherlaw20_NumberRows.f
  by_cases h1 : n > 500
  · rw [if_pos h1, known20 4000 (by omega)]; rfl
  rw [if_neg h1, apart_eq _ _ _ _ _ _ _ _ _ _ _ _ _ 4000 (by omega), Option.bind_some, rapart_eq _ _ _ _ _ _ _ _ _ _ _ _ _ 4000 (by omega), Option.bind_some, if_pos rfl, row_eq _ _ _ _ _ _ _ _ _ _ _ _ _ 4000 (by omega), Option.bind_some, rrow_eq _ _ _ _ _ _ _ _ _ _ _ _ _ 4000 (by omega), Option.bind_some]
  have hr : rowN n ≤ 2000 := by unfold rowN; split <;> (try split) <;> omega
  have hl : (if plainE c.f0 c.f1 c.f2 c.f3 c.f4 c.f5 c.f6 c.f7 c.f8 c.f9 c.f10 = 0 then rowV c.f8 a (rowN n) else []).length ≤ 2000 := by
    split
    · simp [rowV]; exact hr
    · simp
  rw [ints_eq _ (by omega) 4000 (by omega), Option.bind_some, if_pos rfl, known20 4000 (by omega)]
  rfl
end Go.Proofs.Ytjfcedhjmmnofaa.Pure
