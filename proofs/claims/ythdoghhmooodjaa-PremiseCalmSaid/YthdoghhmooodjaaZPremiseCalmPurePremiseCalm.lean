import Derived.Test.YthdoghhmooodjaaZPremiseCalmStmtPremiseCalm
import Derived.Test.YthdoghhmooodjaaZPremiseCalmPremiseFacts
namespace Go.Proofs.Ythdoghhmooodjaa.Pure
open Go.RowKit Go.Proofs.Ythdoghhmooodjaa.Gn Go.Proofs.YthdoghhmooodjaaW.PrintWords Go.Proofs.YthdoghhmooodjaaW.PrintLast Go.Proofs.Ythdoghhmooodjaa.Facts Go.Proofs.Ythdoghhmooodjaa.Opens
theorem PremiseCalm : Gn.PremiseCalm.Pure := by
  intro s t _ _
  have hk := known34 400000 (by omega)
  obtain ⟨b, h1, h2⟩ := few_eq s 2100 (by omega) 400000 (by omega)
  refine ⟨400000, ?_⟩
  unfold l34_PremiseCalm.f
  rw [show (2100 : Int) = ((2100 : Nat) : Int) from rfl, h1, Option.bind_some]
  cases b with
  | false => rw [if_neg (by decide), hk]; rfl
  | true =>
    have hs := (h2 rfl).to (m := 2900) (by omega)
    rw [if_pos rfl, pholds_eq _ (by omega) s hs, Option.bind_some, rholds_eq _ (by omega) s hs, Option.bind_some, if_pos rfl, pcalm_eq s t hs.fa _ (by omega), Option.bind_some, rcalm_eq s t hs.fa _ (by omega), Option.bind_some, if_pos (by simp), hk]
    rfl
end Go.Proofs.Ythdoghhmooodjaa.Pure
