import Derived.Test.YtbedfoeifaegmaaZLogCapsGn0
import Derived.Test.YtbedfoeifaegmaaZLogCapsOpens
namespace Go.Proofs.Ytbedfoeifaegmaa.Gn
open Go.RowKit Go.Proofs.YtbedfoeifaegmaaW.PrintWords Go.Proofs.YtbedfoeifaegmaaW.PrintLast Go.Proofs.Ytbedfoeifaegmaa.Opens
set_option linter.unusedVariables false
set_option linter.unusedSimpArgs false
def wf43 (x : S43) : Prop := (wfInt .i64) x.f0 ∧ (wfInt .i64) x.f1
set_option maxRecDepth 100000 in
theorem opens43 : Opens Try.prog 43 k43 wf43 := by
  have h := opens_struct (P := Try.prog) (g := (fun x : S43 => (x.f0, x.f1))) (wf := (fun x => (wfInt .i64) x.1 ∧ (wfInt .i64) x.2)) Try.underlying43 (opensF_cons (opens_int Try.underlying3 (by kernel_rfl)) rfl (opensF_one (opens_int Try.underlying3 (by kernel_rfl)) rfl)) (by kernel_rfl) (fun ⟨x0, x1⟩ => ⟨⟨x0, x1⟩, rfl⟩)
  exact h
end Go.Proofs.Ytbedfoeifaegmaa.Gn
