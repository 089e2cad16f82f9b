import Derived.Test.YtjfcedhjmmnofaaZSchedOnceGn0
import Derived.Test.YtjfcedhjmmnofaaZSchedOnceOpens
namespace Go.Proofs.Ytjfcedhjmmnofaa.Gn
open Go.RowKit Go.Proofs.YtjfcedhjmmnofaaW.PrintWords Go.Proofs.YtjfcedhjmmnofaaW.PrintLast Go.Proofs.Ytjfcedhjmmnofaa.Opens
set_option linter.unusedVariables false
set_option linter.unusedSimpArgs false
def wf24 (x : S24) : Prop := (wfInt .i64) x.f0 ∧ (wfInt .i64) x.f1 ∧ (wfInt .i64) x.f2 ∧ (wfInt .i64) x.f3 ∧ (wfInt .i64) x.f4 ∧ (wfInt .i64) x.f5 ∧ (wfInt .i64) x.f6 ∧ (wfInt .i64) x.f7 ∧ (wfInt .i64) x.f8 ∧ (wfInt .i64) x.f9 ∧ (wfList 8 (wfInt .i64)) x.f10
set_option maxRecDepth 100000 in
theorem opens24 : Opens Try.prog 24 k24 wf24 := by
  have h := opens_struct (P := Try.prog) (g := (fun x : S24 => (x.f0, x.f1, x.f2, x.f3, x.f4, x.f5, x.f6, x.f7, x.f8, x.f9, x.f10))) (wf := (fun x => (wfInt .i64) x.1 ∧ (wfInt .i64) x.2.1 ∧ (wfInt .i64) x.2.2.1 ∧ (wfInt .i64) x.2.2.2.1 ∧ (wfInt .i64) x.2.2.2.2.1 ∧ (wfInt .i64) x.2.2.2.2.2.1 ∧ (wfInt .i64) x.2.2.2.2.2.2.1 ∧ (wfInt .i64) x.2.2.2.2.2.2.2.1 ∧ (wfInt .i64) x.2.2.2.2.2.2.2.2.1 ∧ (wfInt .i64) x.2.2.2.2.2.2.2.2.2.1 ∧ (wfList 8 (wfInt .i64)) x.2.2.2.2.2.2.2.2.2.2)) Try.underlying24 (opensF_cons (opens_int Try.underlying3 (by kernel_rfl)) rfl (opensF_cons (opens_int Try.underlying3 (by kernel_rfl)) rfl (opensF_cons (opens_int Try.underlying3 (by kernel_rfl)) rfl (opensF_cons (opens_int Try.underlying3 (by kernel_rfl)) rfl (opensF_cons (opens_int Try.underlying3 (by kernel_rfl)) rfl (opensF_cons (opens_int Try.underlying3 (by kernel_rfl)) rfl (opensF_cons (opens_int Try.underlying3 (by kernel_rfl)) rfl (opensF_cons (opens_int Try.underlying3 (by kernel_rfl)) rfl (opensF_cons (opens_int Try.underlying3 (by kernel_rfl)) rfl (opensF_cons (opens_int Try.underlying3 (by kernel_rfl)) rfl (opensF_one (opens_slice Try.underlying22 (by kernel_rfl) (by kernel_rfl) (opens_int Try.underlying3 (by kernel_rfl))) rfl))))))))))) (by kernel_rfl) (fun ⟨x0, x1, x2, x3, x4, x5, x6, x7, x8, x9, x10⟩ => ⟨⟨x0, x1, x2, x3, x4, x5, x6, x7, x8, x9, x10⟩, rfl⟩)
  exact h
end Go.Proofs.Ytjfcedhjmmnofaa.Gn
