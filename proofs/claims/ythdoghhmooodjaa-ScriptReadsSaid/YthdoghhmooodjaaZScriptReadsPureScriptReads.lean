import Derived.Test.YthdoghhmooodjaaZScriptReadsStmtScriptReads
import Derived.Test.YthdoghhmooodjaaZScriptReadsScriptRead
namespace Go.Proofs.Ythdoghhmooodjaa.Pure
open Go.RowKit Go.Proofs.Ythdoghhmooodjaa.Gn Go.Proofs.YthdoghhmooodjaaW.PrintWords Go.Proofs.YthdoghhmooodjaaW.PrintLast Go.Proofs.Ythdoghhmooodjaa.Facts Go.Proofs.Ythdoghhmooodjaa.Opens
theorem ScriptReads : Gn.ScriptReads.Pure := by
  intro s t a b0 _ _ _ _
  have hk := known33 400000 (by omega)
  obtain ⟨b, h1, h2⟩ := few_eq s 2100 (by omega) 400000 (by omega)
  refine ⟨400000, ?_⟩
  unfold l33_ScriptReads.f
  rw [show (2100 : Int) = ((2100 : Nat) : Int) from rfl, h1, Option.bind_some]
  cases b with
  | false => rw [if_neg (by decide), hk]; rfl
  | true =>
    have hF := (h2 rfl).fa
    have hl := honV_len s
    rw [if_pos rfl, sunits_eq 400000 (by omega), Option.bind_some, runits_eq 400000 (by omega), Option.bind_some, if_pos rfl, sdelay_eq 400000 (by omega), Option.bind_some, rdelay_eq 400000 (by omega), Option.bind_some, if_pos rfl,
      simage_eq 400000 (by omega), Option.bind_some, rimage_eq, Option.bind_some, if_pos rfl, sflt_eq 400000 s _ (by omega) (by omega), Option.bind_some, rflt_eq 400000 s _ (by omega) (by omega), Option.bind_some, if_pos (by simp),
      shonest_eq 400000 (by omega) s hF, Option.bind_some, rhonest_eq 400000 (by omega) s hF, Option.bind_some, ints_eq _ (by omega) 400000 (by omega), Option.bind_some, if_pos rfl, hk]
    rfl
end Go.Proofs.Ythdoghhmooodjaa.Pure
