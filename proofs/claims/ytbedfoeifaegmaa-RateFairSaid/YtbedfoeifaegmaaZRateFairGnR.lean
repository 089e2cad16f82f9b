import Derived.Test.YtbedfoeifaegmaaZRateFairGn0
import Derived.Test.YtbedfoeifaegmaaZRateFairOpens
namespace Go.Proofs.Ytbedfoeifaegmaa.Gn
open Go.RowKit Go.Proofs.YtbedfoeifaegmaaW.PrintWords Go.Proofs.YtbedfoeifaegmaaW.PrintLast Go.Proofs.Ytbedfoeifaegmaa.Opens
set_option linter.unusedVariables false
set_option linter.unusedSimpArgs false
def wf43 (x : S43) : Prop := (wfInt .i64) x.f0 ∧ (wfInt .i64) x.f1
set_option maxRecDepth 100000 in
theorem opens43 : Opens Try.prog 43 k43 wf43 := by
  have h := opens_struct (P := Try.prog) (g := (fun x : S43 => (x.f0, x.f1))) (wf := (fun x => (wfInt .i64) x.1 ∧ (wfInt .i64) x.2)) Try.underlying43 (opensF_cons (opens_int Try.underlying3 (by kernel_rfl)) rfl (opensF_one (opens_int Try.underlying3 (by kernel_rfl)) rfl)) (by kernel_rfl) (fun ⟨x0, x1⟩ => ⟨⟨x0, x1⟩, rfl⟩)
  exact h
def wf24 (x : S24) : Prop := (wfList 16 wf43) x.f0 ∧ (wfInt .i64) x.f1 ∧ (wfInt .i64) x.f2 ∧ (wfInt .i64) x.f3
set_option maxRecDepth 100000 in
theorem opens24 : Opens Try.prog 24 k24 wf24 := by
  have h := opens_struct (P := Try.prog) (g := (fun x : S24 => (x.f0, x.f1, x.f2, x.f3))) (wf := (fun x => (wfList 16 wf43) x.1 ∧ (wfInt .i64) x.2.1 ∧ (wfInt .i64) x.2.2.1 ∧ (wfInt .i64) x.2.2.2)) Try.underlying24 (opensF_cons (opens_slice Try.underlying22 (by kernel_rfl) (by kernel_rfl) opens43) rfl (opensF_cons (opens_int Try.underlying3 (by kernel_rfl)) rfl (opensF_cons (opens_int Try.underlying3 (by kernel_rfl)) rfl (opensF_one (opens_int Try.underlying3 (by kernel_rfl)) rfl)))) (by kernel_rfl) (fun ⟨x0, x1, x2, x3⟩ => ⟨⟨x0, x1, x2, x3⟩, rfl⟩)
  exact h
end Go.Proofs.Ytbedfoeifaegmaa.Gn
