import Derived.Test.YthdoghhmooodjaaZPremiseLastStmtPremiseLast
import Derived.Test.YthdoghhmooodjaaZPremiseLastPremiseFacts
namespace Go.Proofs.Ythdoghhmooodjaa.Pure
open Go.RowKit Go.Proofs.Ythdoghhmooodjaa.Gn Go.Proofs.YthdoghhmooodjaaW.PrintWords Go.Proofs.YthdoghhmooodjaaW.PrintLast Go.Proofs.Ythdoghhmooodjaa.Facts Go.Proofs.Ythdoghhmooodjaa.Opens
theorem PremiseLast : Gn.PremiseLast.Pure := by
  intro s _
  have hk := known34 400000 (by omega)
  obtain ⟨b, h1, h2⟩ := few_eq s 2100 (by omega) 400000 (by omega)
  refine ⟨400000, ?_⟩
  unfold l34_PremiseLast.f
  rw [show (2100 : Int) = ((2100 : Nat) : Int) from rfl, h1, Option.bind_some]
  cases b with
  | false => rw [if_neg (by decide), hk]; rfl
  | true =>
    have hs := (h2 rfl).to (m := 2900) (by omega)
    rw [if_pos rfl, plast_eq s hs _ (by omega), Option.bind_some, rlast_eq s hs _ (by omega), Option.bind_some, if_pos rfl, psettled_eq s hs _ (by omega), Option.bind_some, rsettled_eq s hs _ (by omega), Option.bind_some, if_pos rfl, pall_eq s hs _ (by omega), Option.bind_some, rall_eq s hs _ (by omega), Option.bind_some, if_pos rfl, hk]
    rfl
end Go.Proofs.Ythdoghhmooodjaa.Pure
