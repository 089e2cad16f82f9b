import Derived.Test.YthdoghhmooodjaaZPremiseAfterGn0
import Derived.Test.YthdoghhmooodjaaZPremiseAfterOpens
namespace Go.Proofs.Ythdoghhmooodjaa.Gn
open Go.RowKit Go.Proofs.YthdoghhmooodjaaW.PrintWords Go.Proofs.YthdoghhmooodjaaW.PrintLast Go.Proofs.Ythdoghhmooodjaa.Opens
set_option linter.unusedVariables false
set_option linter.unusedSimpArgs false
def wf24 (x : S24) : Prop := (wfInt .i64) x.f0 ∧ (wfInt .i64) x.f1 ∧ (wfInt .i64) x.f2 ∧ (wfInt .i64) x.f3 ∧ (wfInt .i64) x.f4 ∧ (wfInt .i64) x.f5 ∧ (wfInt .i64) x.f6 ∧ (wfInt .i64) x.f7 ∧ (wfInt .i64) x.f8 ∧ (wfInt .i64) x.f9 ∧ (wfList 8 (wfInt .i64)) x.f10
set_option maxRecDepth 100000 in
theorem opens24 : Opens Try.prog 24 k24 wf24 := by
  have h := opens_struct (P := Try.prog) (g := (fun x : S24 => (x.f0, x.f1, x.f2, x.f3, x.f4, x.f5, x.f6, x.f7, x.f8, x.f9, x.f10))) (wf := (fun x => (wfInt .i64) x.1 ∧ (wfInt .i64) x.2.1 ∧ (wfInt .i64) x.2.2.1 ∧ (wfInt .i64) x.2.2.2.1 ∧ (wfInt .i64) x.2.2.2.2.1 ∧ (wfInt .i64) x.2.2.2.2.2.1 ∧ (wfInt .i64) x.2.2.2.2.2.2.1 ∧ (wfInt .i64) x.2.2.2.2.2.2.2.1 ∧ (wfInt .i64) x.2.2.2.2.2.2.2.2.1 ∧ (wfInt .i64) x.2.2.2.2.2.2.2.2.2.1 ∧ (wfList 8 (wfInt .i64)) x.2.2.2.2.2.2.2.2.2.2)) Try.underlying24 (opensF_cons (opens_int Try.underlying3 (by kernel_rfl)) rfl (opensF_cons (opens_int Try.underlying3 (by kernel_rfl)) rfl (opensF_cons (opens_int Try.underlying3 (by kernel_rfl)) rfl (opensF_cons (opens_int Try.underlying3 (by kernel_rfl)) rfl (opensF_cons (opens_int Try.underlying3 (by kernel_rfl)) rfl (opensF_cons (opens_int Try.underlying3 (by kernel_rfl)) rfl (opensF_cons (opens_int Try.underlying3 (by kernel_rfl)) rfl (opensF_cons (opens_int Try.underlying3 (by kernel_rfl)) rfl (opensF_cons (opens_int Try.underlying3 (by kernel_rfl)) rfl (opensF_cons (opens_int Try.underlying3 (by kernel_rfl)) rfl (opensF_one (opens_slice Try.underlying22 (by kernel_rfl) (by kernel_rfl) (opens_int Try.underlying3 (by kernel_rfl))) rfl))))))))))) (by kernel_rfl) (fun ⟨x0, x1, x2, x3, x4, x5, x6, x7, x8, x9, x10⟩ => ⟨⟨x0, x1, x2, x3, x4, x5, x6, x7, x8, x9, x10⟩, rfl⟩)
  exact h
def wf74 (x : S74) : Prop := (wfInt .i64) x.f0 ∧ (wfInt .i64) x.f1 ∧ (wfInt .i64) x.f2 ∧ wfStr x.f3
set_option maxRecDepth 100000 in
theorem opens74 : Opens Try.prog 74 k74 wf74 := by
  have h := opens_struct (P := Try.prog) (g := (fun x : S74 => (x.f0, x.f1, x.f2, x.f3))) (wf := (fun x => (wfInt .i64) x.1 ∧ (wfInt .i64) x.2.1 ∧ (wfInt .i64) x.2.2.1 ∧ wfStr x.2.2.2)) Try.underlying74 (opensF_cons (opens_int Try.underlying3 (by kernel_rfl)) rfl (opensF_cons (opens_int Try.underlying3 (by kernel_rfl)) rfl (opensF_cons (opens_int Try.underlying3 (by kernel_rfl)) rfl (opensF_one (opens_str Try.underlying9 (by kernel_rfl)) rfl)))) (by kernel_rfl) (fun ⟨x0, x1, x2, x3⟩ => ⟨⟨x0, x1, x2, x3⟩, rfl⟩)
  exact h
def wf48 (x : S48) : Prop := (wfInt .i64) x.f0 ∧ wfStr x.f1
set_option maxRecDepth 100000 in
theorem opens48 : Opens Try.prog 48 k48 wf48 := by
  have h := opens_struct (P := Try.prog) (g := (fun x : S48 => (x.f0, x.f1))) (wf := (fun x => (wfInt .i64) x.1 ∧ wfStr x.2)) Try.underlying48 (opensF_cons (opens_int Try.underlying3 (by kernel_rfl)) rfl (opensF_one (opens_str Try.underlying9 (by kernel_rfl)) rfl)) (by kernel_rfl) (fun ⟨x0, x1⟩ => ⟨⟨x0, x1⟩, rfl⟩)
  exact h
def wf81 (x : S81) : Prop := (wfInt .i64) x.f0 ∧ wfStr x.f1
set_option maxRecDepth 100000 in
theorem opens81 : Opens Try.prog 81 k81 wf81 := by
  have h := opens_struct (P := Try.prog) (g := (fun x : S81 => (x.f0, x.f1))) (wf := (fun x => (wfInt .i64) x.1 ∧ wfStr x.2)) Try.underlying81 (opensF_cons (opens_int Try.underlying3 (by kernel_rfl)) rfl (opensF_one (opens_str Try.underlying9 (by kernel_rfl)) rfl)) (by kernel_rfl) (fun ⟨x0, x1⟩ => ⟨⟨x0, x1⟩, rfl⟩)
  exact h
def wf44 (x : S44) : Prop := (wfList 8 (wfInt .i64)) x.f0 ∧ (wfList 8 (wfInt .i64)) x.f1 ∧ (wfList 40 wf74) x.f2 ∧ (wfList 24 wf48) x.f3 ∧ (wfList 40 wf74) x.f4 ∧ (wfList 24 wf81) x.f5
set_option maxRecDepth 100000 in
theorem opens44 : Opens Try.prog 44 k44 wf44 := by
  have h := opens_struct (P := Try.prog) (g := (fun x : S44 => (x.f0, x.f1, x.f2, x.f3, x.f4, x.f5))) (wf := (fun x => (wfList 8 (wfInt .i64)) x.1 ∧ (wfList 8 (wfInt .i64)) x.2.1 ∧ (wfList 40 wf74) x.2.2.1 ∧ (wfList 24 wf48) x.2.2.2.1 ∧ (wfList 40 wf74) x.2.2.2.2.1 ∧ (wfList 24 wf81) x.2.2.2.2.2)) Try.underlying44 (opensF_cons (opens_slice Try.underlying22 (by kernel_rfl) (by kernel_rfl) (opens_int Try.underlying3 (by kernel_rfl))) rfl (opensF_cons (opens_slice Try.underlying22 (by kernel_rfl) (by kernel_rfl) (opens_int Try.underlying3 (by kernel_rfl))) rfl (opensF_cons (opens_slice Try.underlying40 (by kernel_rfl) (by kernel_rfl) opens74) rfl (opensF_cons (opens_slice Try.underlying41 (by kernel_rfl) (by kernel_rfl) opens48) rfl (opensF_cons (opens_slice Try.underlying40 (by kernel_rfl) (by kernel_rfl) opens74) rfl (opensF_one (opens_slice Try.underlying42 (by kernel_rfl) (by kernel_rfl) opens81) rfl)))))) (by kernel_rfl) (fun ⟨x0, x1, x2, x3, x4, x5⟩ => ⟨⟨x0, x1, x2, x3, x4, x5⟩, rfl⟩)
  exact h
def wf28 (x : S28) : Prop := wf24 x.f0 ∧ (wfList 8 (wfInt .i64)) x.f1 ∧ (wfList 16 wfStr) x.f2 ∧ (wfList 144 wf44) x.f3
set_option maxRecDepth 100000 in
theorem opens28 : Opens Try.prog 28 k28 wf28 := by
  have h := opens_struct (P := Try.prog) (g := (fun x : S28 => (x.f0, x.f1, x.f2, x.f3))) (wf := (fun x => wf24 x.1 ∧ (wfList 8 (wfInt .i64)) x.2.1 ∧ (wfList 16 wfStr) x.2.2.1 ∧ (wfList 144 wf44) x.2.2.2)) Try.underlying28 (opensF_cons opens24 rfl (opensF_cons (opens_slice Try.underlying22 (by kernel_rfl) (by kernel_rfl) (opens_int Try.underlying3 (by kernel_rfl))) rfl (opensF_cons (opens_slice Try.underlying25 (by kernel_rfl) (by kernel_rfl) (opens_str Try.underlying9 (by kernel_rfl))) rfl (opensF_one (opens_slice Try.underlying26 (by kernel_rfl) (by kernel_rfl) opens44) rfl)))) (by kernel_rfl) (fun ⟨x0, x1, x2, x3⟩ => ⟨⟨x0, x1, x2, x3⟩, rfl⟩)
  exact h
end Go.Proofs.Ythdoghhmooodjaa.Gn
