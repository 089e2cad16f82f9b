import Derived.Test.YtdnccjlfongdeaaZRoundOnlyGn0
import Derived.Test.YtdnccjlfongdeaaZRoundOnlyOpens
namespace Go.Proofs.Ytdnccjlfongdeaa.Gn
open Go.RowKit Go.Proofs.YtdnccjlfongdeaaW.PrintWords Go.Proofs.YtdnccjlfongdeaaW.PrintLast Go.Proofs.Ytdnccjlfongdeaa.Opens
set_option linter.unusedVariables false
set_option linter.unusedSimpArgs false
def wf24 (x : S24) : Prop := (wfInt .i64) x.f0 ∧ (wfInt .i64) x.f1 ∧ (wfInt .i64) x.f2 ∧ (wfInt .i64) x.f3 ∧ (wfInt .i64) x.f4 ∧ (wfInt .i64) x.f5 ∧ (wfInt .i64) x.f6 ∧ (wfInt .i64) x.f7 ∧ (wfInt .i64) x.f8 ∧ (wfInt .i64) x.f9 ∧ (wfList 8 (wfInt .i64)) x.f10
set_option maxRecDepth 100000 in
theorem opens24 : Opens Try.prog 24 k24 wf24 := by
  have h := opens_struct (P := Try.prog) (g := (fun x : S24 => (x.f0, x.f1, x.f2, x.f3, x.f4, x.f5, x.f6, x.f7, x.f8, x.f9, x.f10))) (wf := (fun x => (wfInt .i64) x.1 ∧ (wfInt .i64) x.2.1 ∧ (wfInt .i64) x.2.2.1 ∧ (wfInt .i64) x.2.2.2.1 ∧ (wfInt .i64) x.2.2.2.2.1 ∧ (wfInt .i64) x.2.2.2.2.2.1 ∧ (wfInt .i64) x.2.2.2.2.2.2.1 ∧ (wfInt .i64) x.2.2.2.2.2.2.2.1 ∧ (wfInt .i64) x.2.2.2.2.2.2.2.2.1 ∧ (wfInt .i64) x.2.2.2.2.2.2.2.2.2.1 ∧ (wfList 8 (wfInt .i64)) x.2.2.2.2.2.2.2.2.2.2)) Try.underlying24 (opensF_cons (opens_int Try.underlying3 (by kernel_rfl)) rfl (opensF_cons (opens_int Try.underlying3 (by kernel_rfl)) rfl (opensF_cons (opens_int Try.underlying3 (by kernel_rfl)) rfl (opensF_cons (opens_int Try.underlying3 (by kernel_rfl)) rfl (opensF_cons (opens_int Try.underlying3 (by kernel_rfl)) rfl (opensF_cons (opens_int Try.underlying3 (by kernel_rfl)) rfl (opensF_cons (opens_int Try.underlying3 (by kernel_rfl)) rfl (opensF_cons (opens_int Try.underlying3 (by kernel_rfl)) rfl (opensF_cons (opens_int Try.underlying3 (by kernel_rfl)) rfl (opensF_cons (opens_int Try.underlying3 (by kernel_rfl)) rfl (opensF_one (opens_slice Try.underlying22 (by kernel_rfl) (by kernel_rfl) (opens_int Try.underlying3 (by kernel_rfl))) rfl))))))))))) (by kernel_rfl) (fun ⟨x0, x1, x2, x3, x4, x5, x6, x7, x8, x9, x10⟩ => ⟨⟨x0, x1, x2, x3, x4, x5, x6, x7, x8, x9, x10⟩, rfl⟩)
  exact h
def wf45 (x : S45) : Prop := (wfInt .i64) x.f0 ∧ (wfInt .i64) x.f1 ∧ (wfInt .i64) x.f2 ∧ wfStr x.f3
set_option maxRecDepth 100000 in
theorem opens45 : Opens Try.prog 45 k45 wf45 := by
  have h := opens_struct (P := Try.prog) (g := (fun x : S45 => (x.f0, x.f1, x.f2, x.f3))) (wf := (fun x => (wfInt .i64) x.1 ∧ (wfInt .i64) x.2.1 ∧ (wfInt .i64) x.2.2.1 ∧ wfStr x.2.2.2)) Try.underlying45 (opensF_cons (opens_int Try.underlying3 (by kernel_rfl)) rfl (opensF_cons (opens_int Try.underlying3 (by kernel_rfl)) rfl (opensF_cons (opens_int Try.underlying3 (by kernel_rfl)) rfl (opensF_one (opens_str Try.underlying9 (by kernel_rfl)) rfl)))) (by kernel_rfl) (fun ⟨x0, x1, x2, x3⟩ => ⟨⟨x0, x1, x2, x3⟩, rfl⟩)
  exact h
def wf32 (x : S32) : Prop := (wfInt .i64) x.f0 ∧ wfStr x.f1 ∧ (wfList 16 wfStr) x.f2 ∧ (wfList 24 (wfList 40 wf45)) x.f3
set_option maxRecDepth 100000 in
theorem opens32 : Opens Try.prog 32 k32 wf32 := by
  have h := opens_struct (P := Try.prog) (g := (fun x : S32 => (x.f0, x.f1, x.f2, x.f3))) (wf := (fun x => (wfInt .i64) x.1 ∧ wfStr x.2.1 ∧ (wfList 16 wfStr) x.2.2.1 ∧ (wfList 24 (wfList 40 wf45)) x.2.2.2)) Try.underlying32 (opensF_cons (opens_int Try.underlying3 (by kernel_rfl)) rfl (opensF_cons (opens_str Try.underlying9 (by kernel_rfl)) rfl (opensF_cons (opens_slice Try.underlying27 (by kernel_rfl) (by kernel_rfl) (opens_str Try.underlying9 (by kernel_rfl))) rfl (opensF_one (opens_slice Try.underlying28 (by kernel_rfl) (by kernel_rfl) (opens_slice Try.underlying42 (by kernel_rfl) (by kernel_rfl) opens45)) rfl)))) (by kernel_rfl) (fun ⟨x0, x1, x2, x3⟩ => ⟨⟨x0, x1, x2, x3⟩, rfl⟩)
  exact h
end Go.Proofs.Ytdnccjlfongdeaa.Gn
