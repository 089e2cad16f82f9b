import Derived.Test.YtebflimijebbnaaZAcceptAllStmtAcceptAll
import Derived.Test.YtebflimijebbnaaZAcceptAllAllFacts
namespace Go.Proofs.Ytebflimijebbnaa.Pure
open Go.RowKit Go.Proofs.Ytebflimijebbnaa.Gn Go.Proofs.YtebflimijebbnaaW.PrintWords Go.Proofs.YtebflimijebbnaaW.PrintLast Go.Proofs.Ytebflimijebbnaa.Facts Go.Proofs.Ytebflimijebbnaa.Opens
theorem AcceptAll : Gn.AcceptAll.Pure := by
  intro c m l _ _ _
  refine ⟨1001, ?_⟩
  have hj : l24_AcceptAll.j0 1001 l true c.f0 c.f1 c.f2 c.f3 c.f4 c.f5 c.f6 c.f7 c.f8 c.f9 c.f10 m.f0 m.f1 m.f2 m.f3 m.f4 m.f5 m.f6 m.f7 m.f8 m.f9 m.f10 m.f11 m.f12 m.f13 m.f14 m.f15 m.f16 m.f17 m.f18.f0 m.f18.f1 m.f18.f2 m.f18.f3 m.f18.f4 m.f18.f5 = some true := by
    rw [l24_AcceptAll.j0, if_pos rfl, known24 1000 (by omega)]
    rfl
  unfold l24_AcceptAll.f
  by_cases h1 : (m.f11.size : Int) > 100
  · rw [if_pos h1]
    exact hj
  rw [if_neg h1]
  by_cases h2 : (m.f10.size : Int) > 100
  · rw [if_pos h2]
    exact hj
  rw [if_neg h2]
  by_cases h3 : (l.length : Int) > 20
  · rw [decide_eq_true h3]
    exact hj
  have hL := allV_len c m l
  rw [decide_eq_false h3, l24_AcceptAll.j0, if_neg (by decide), acc_all_eq _ _ _ (by omega) 1000 (by omega), Option.bind_some, acc_rall_eq _ _ _ (by omega) 1000 (by omega), Option.bind_some, if_pos rfl, if_pos rfl, same_eq _ (by omega) 1000 (by omega), Option.bind_some, if_pos rfl, if_pos rfl, known24 1000 (by omega)]
  rfl
end Go.Proofs.Ytebflimijebbnaa.Pure
