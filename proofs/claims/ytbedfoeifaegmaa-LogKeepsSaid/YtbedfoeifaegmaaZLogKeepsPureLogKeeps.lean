import Derived.Test.YtbedfoeifaegmaaZLogKeepsStmtLogKeeps
import Derived.Test.YtbedfoeifaegmaaZLogKeepsWhoFacts
namespace Go.Proofs.Ytbedfoeifaegmaa.Pure
open Go.RowKit Go.Proofs.Ytbedfoeifaegmaa.Gn Go.Proofs.YtbedfoeifaegmaaW.PrintWords Go.Proofs.YtbedfoeifaegmaaW.PrintLast Go.Proofs.Ytbedfoeifaegmaa.Facts Go.Proofs.Ytbedfoeifaegmaa.Opens
theorem LogKeeps : Gn.LogKeeps.Pure := by
  intro l e now width hl he hn hw
  have hE : WfE l := fun x hx => (hl.2 x hx).1
  refine ⟨100400, ?_⟩
  have hk := known06 100400 (by decide)
  unfold l06_LogKeeps.f
  by_cases g : (l.length : Int) > 100
  · rw [if_pos g, hk]; rfl
  have h1 := prg_len now width l
  have h2 := whoV_len now width l
  have h3 := addV_len l ⟨e.f0, e.f1⟩
  rw [if_neg g, add_eq l (by omega), Option.bind_some, radd_eq l (by omega), Option.bind_some, purge_eq l (by omega), Option.bind_some, rpurge_eq l (by omega) _ _ _ (by omega), Option.bind_some,
    same_eq _ (by omega) _ (by omega), Option.bind_some, if_pos rfl, same_eq _ (by omega) _ (by omega), Option.bind_some, if_pos rfl, if_pos (by simp), count_eq l (by omega) hE, Option.bind_some, rcount_eq l (by omega) _ _ _ (by omega), Option.bind_some, if_pos rfl,
    of_eq l (by omega) hE _ _ _ he.1, Option.bind_some, rof_eq l (by omega) _ _ _ _ (by omega), Option.bind_some, if_pos rfl, who_eq l (by omega) hE, Option.bind_some, rwho_eq l (by omega) _ _ _ (by omega), Option.bind_some, ints_eq _ (by omega) _ (by omega), Option.bind_some, if_pos rfl, hk]
  rfl
end Go.Proofs.Ytbedfoeifaegmaa.Pure
