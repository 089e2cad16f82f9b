import Derived.Test.YthmnlopmocjpaaaZStatusAgreesGn0
import Derived.Test.YthmnlopmocjpaaaZStatusAgreesOpens
namespace Go.Proofs.Ythmnlopmocjpaaa.Gn
open Go.RowKit Go.Proofs.YthmnlopmocjpaaaW.PrintWords Go.Proofs.YthmnlopmocjpaaaW.PrintLast Go.Proofs.Ythmnlopmocjpaaa.Opens
set_option linter.unusedVariables false
set_option linter.unusedSimpArgs false
def wf24 (x : S24) : Prop := (wfInt .i64) x.f0 ∧ (wfInt .i64) x.f1 ∧ (wfInt .i64) x.f2 ∧ (wfInt .i64) x.f3 ∧ (wfInt .i64) x.f4 ∧ (wfInt .i64) x.f5 ∧ (wfInt .i64) x.f6 ∧ (wfInt .i64) x.f7 ∧ (wfInt .i64) x.f8 ∧ (wfInt .i64) x.f9 ∧ (wfList 8 (wfInt .i64)) x.f10
set_option maxRecDepth 100000 in
theorem opens24 : Opens Try.prog 24 k24 wf24 := by
  have h := opens_struct (P := Try.prog) (g := (fun x : S24 => (x.f0, x.f1, x.f2, x.f3, x.f4, x.f5, x.f6, x.f7, x.f8, x.f9, x.f10))) (wf := (fun x => (wfInt .i64) x.1 ∧ (wfInt .i64) x.2.1 ∧ (wfInt .i64) x.2.2.1 ∧ (wfInt .i64) x.2.2.2.1 ∧ (wfInt .i64) x.2.2.2.2.1 ∧ (wfInt .i64) x.2.2.2.2.2.1 ∧ (wfInt .i64) x.2.2.2.2.2.2.1 ∧ (wfInt .i64) x.2.2.2.2.2.2.2.1 ∧ (wfInt .i64) x.2.2.2.2.2.2.2.2.1 ∧ (wfInt .i64) x.2.2.2.2.2.2.2.2.2.1 ∧ (wfList 8 (wfInt .i64)) x.2.2.2.2.2.2.2.2.2.2)) Try.underlying24 (opensF_cons (opens_int Try.underlying3 (by kernel_rfl)) rfl (opensF_cons (opens_int Try.underlying3 (by kernel_rfl)) rfl (opensF_cons (opens_int Try.underlying3 (by kernel_rfl)) rfl (opensF_cons (opens_int Try.underlying3 (by kernel_rfl)) rfl (opensF_cons (opens_int Try.underlying3 (by kernel_rfl)) rfl (opensF_cons (opens_int Try.underlying3 (by kernel_rfl)) rfl (opensF_cons (opens_int Try.underlying3 (by kernel_rfl)) rfl (opensF_cons (opens_int Try.underlying3 (by kernel_rfl)) rfl (opensF_cons (opens_int Try.underlying3 (by kernel_rfl)) rfl (opensF_cons (opens_int Try.underlying3 (by kernel_rfl)) rfl (opensF_one (opens_slice Try.underlying22 (by kernel_rfl) (by kernel_rfl) (opens_int Try.underlying3 (by kernel_rfl))) rfl))))))))))) (by kernel_rfl) (fun ⟨x0, x1, x2, x3, x4, x5, x6, x7, x8, x9, x10⟩ => ⟨⟨x0, x1, x2, x3, x4, x5, x6, x7, x8, x9, x10⟩, rfl⟩)
  exact h
def wf96 (x : S96) : Prop := wfStr x.f0 ∧ (wfInt .i64) x.f1 ∧ (wfInt .i64) x.f2
set_option maxRecDepth 100000 in
theorem opens96 : Opens Try.prog 96 k96 wf96 := by
  have h := opens_struct (P := Try.prog) (g := (fun x : S96 => (x.f0, x.f1, x.f2))) (wf := (fun x => wfStr x.1 ∧ (wfInt .i64) x.2.1 ∧ (wfInt .i64) x.2.2)) Try.underlying96 (opensF_cons (opens_str Try.underlying9 (by kernel_rfl)) rfl (opensF_cons (opens_int Try.underlying3 (by kernel_rfl)) rfl (opensF_one (opens_int Try.underlying3 (by kernel_rfl)) rfl))) (by kernel_rfl) (fun ⟨x0, x1, x2⟩ => ⟨⟨x0, x1, x2⟩, rfl⟩)
  exact h
def wf98 (x : S98) : Prop := (wfInt .i64) x.f0 ∧ (wfInt .i64) x.f1
set_option maxRecDepth 100000 in
theorem opens98 : Opens Try.prog 98 k98 wf98 := by
  have h := opens_struct (P := Try.prog) (g := (fun x : S98 => (x.f0, x.f1))) (wf := (fun x => (wfInt .i64) x.1 ∧ (wfInt .i64) x.2)) Try.underlying98 (opensF_cons (opens_int Try.underlying3 (by kernel_rfl)) rfl (opensF_one (opens_int Try.underlying3 (by kernel_rfl)) rfl)) (by kernel_rfl) (fun ⟨x0, x1⟩ => ⟨⟨x0, x1⟩, rfl⟩)
  exact h
def wf28 (x : S28) : Prop := (wfInt .i64) x.f0 ∧ (wfInt .i64) x.f1 ∧ (wfInt .i64) x.f2 ∧ (wfInt .i64) x.f3 ∧ (wfInt .i64) x.f4 ∧ (wfInt .i64) x.f5
set_option maxRecDepth 100000 in
theorem opens28 : Opens Try.prog 28 k28 wf28 := by
  have h := opens_array (P := Try.prog) (g := (fun x : S28 => (x.f0, x.f1, x.f2, x.f3, x.f4, x.f5))) (wf := (fun x => (wfInt .i64) x.1 ∧ (wfInt .i64) x.2.1 ∧ (wfInt .i64) x.2.2.1 ∧ (wfInt .i64) x.2.2.2.1 ∧ (wfInt .i64) x.2.2.2.2.1 ∧ (wfInt .i64) x.2.2.2.2.2)) Try.underlying28 [({ name := "", type := 3, offset := 0, embedded := false, tag := "", pkgPath := "", byteOffset := 0 } : Field), ({ name := "", type := 3, offset := 1, embedded := false, tag := "", pkgPath := "", byteOffset := 0 } : Field), ({ name := "", type := 3, offset := 2, embedded := false, tag := "", pkgPath := "", byteOffset := 0 } : Field), ({ name := "", type := 3, offset := 3, embedded := false, tag := "", pkgPath := "", byteOffset := 0 } : Field), ({ name := "", type := 3, offset := 4, embedded := false, tag := "", pkgPath := "", byteOffset := 0 } : Field), ({ name := "", type := 3, offset := 5, embedded := false, tag := "", pkgPath := "", byteOffset := 0 } : Field)] rfl (fun i f h => by
    have hc : Try.prog.cellsOf 3 = 1 := by kernel_rfl
    rw [hc]
    match i, h with
    | 0, h => cases h; exact ⟨rfl, rfl⟩
    | 1, h => cases h; exact ⟨rfl, rfl⟩
    | 2, h => cases h; exact ⟨rfl, rfl⟩
    | 3, h => cases h; exact ⟨rfl, rfl⟩
    | 4, h => cases h; exact ⟨rfl, rfl⟩
    | 5, h => cases h; exact ⟨rfl, rfl⟩
    | (j + 6), h => simp at h) (opensF_cons (opens_int Try.underlying3 (by kernel_rfl)) rfl (opensF_cons (opens_int Try.underlying3 (by kernel_rfl)) rfl (opensF_cons (opens_int Try.underlying3 (by kernel_rfl)) rfl (opensF_cons (opens_int Try.underlying3 (by kernel_rfl)) rfl (opensF_cons (opens_int Try.underlying3 (by kernel_rfl)) rfl (opensF_one (opens_int Try.underlying3 (by kernel_rfl)) rfl)))))) (by kernel_rfl) (fun ⟨x0, x1, x2, x3, x4, x5⟩ => ⟨⟨x0, x1, x2, x3, x4, x5⟩, rfl⟩)
  exact h
def wf30 (x : S30) : Prop := (wfInt .i64) x.f0 ∧ (wfInt .i64) x.f1 ∧ (wfInt .i64) x.f2 ∧ wfStr x.f3 ∧ (wfInt .i64) x.f4 ∧ wfStr x.f5 ∧ wfStr x.f6 ∧ (wfInt .i64) x.f7 ∧ (wfInt .i64) x.f8 ∧ wfStr x.f9 ∧ wfStr x.f10 ∧ wfStr x.f11 ∧ wfStr x.f12 ∧ wfStr x.f13 ∧ wfStr x.f14 ∧ (wfList 32 wf96) x.f15 ∧ (wfList 16 wfStr) x.f16 ∧ (wfList 16 wf98) x.f17 ∧ wf28 x.f18
set_option maxRecDepth 100000 in
theorem opens30 : Opens Try.prog 30 k30 wf30 := by
  have h := opens_struct (P := Try.prog) (g := (fun x : S30 => (x.f0, x.f1, x.f2, x.f3, x.f4, x.f5, x.f6, x.f7, x.f8, x.f9, x.f10, x.f11, x.f12, x.f13, x.f14, x.f15, x.f16, x.f17, x.f18))) (wf := (fun x => (wfInt .i64) x.1 ∧ (wfInt .i64) x.2.1 ∧ (wfInt .i64) x.2.2.1 ∧ wfStr x.2.2.2.1 ∧ (wfInt .i64) x.2.2.2.2.1 ∧ wfStr x.2.2.2.2.2.1 ∧ wfStr x.2.2.2.2.2.2.1 ∧ (wfInt .i64) x.2.2.2.2.2.2.2.1 ∧ (wfInt .i64) x.2.2.2.2.2.2.2.2.1 ∧ wfStr x.2.2.2.2.2.2.2.2.2.1 ∧ wfStr x.2.2.2.2.2.2.2.2.2.2.1 ∧ wfStr x.2.2.2.2.2.2.2.2.2.2.2.1 ∧ wfStr x.2.2.2.2.2.2.2.2.2.2.2.2.1 ∧ wfStr x.2.2.2.2.2.2.2.2.2.2.2.2.2.1 ∧ wfStr x.2.2.2.2.2.2.2.2.2.2.2.2.2.2.1 ∧ (wfList 32 wf96) x.2.2.2.2.2.2.2.2.2.2.2.2.2.2.2.1 ∧ (wfList 16 wfStr) x.2.2.2.2.2.2.2.2.2.2.2.2.2.2.2.2.1 ∧ (wfList 16 wf98) x.2.2.2.2.2.2.2.2.2.2.2.2.2.2.2.2.2.1 ∧ wf28 x.2.2.2.2.2.2.2.2.2.2.2.2.2.2.2.2.2.2)) Try.underlying30 (opensF_cons (opens_int Try.underlying3 (by kernel_rfl)) rfl (opensF_cons (opens_int Try.underlying3 (by kernel_rfl)) rfl (opensF_cons (opens_int Try.underlying3 (by kernel_rfl)) rfl (opensF_cons (opens_str Try.underlying9 (by kernel_rfl)) rfl (opensF_cons (opens_int Try.underlying3 (by kernel_rfl)) rfl (opensF_cons (opens_str Try.underlying9 (by kernel_rfl)) rfl (opensF_cons (opens_str Try.underlying9 (by kernel_rfl)) rfl (opensF_cons (opens_int Try.underlying3 (by kernel_rfl)) rfl (opensF_cons (opens_int Try.underlying3 (by kernel_rfl)) rfl (opensF_cons (opens_str Try.underlying9 (by kernel_rfl)) rfl (opensF_cons (opens_str Try.underlying9 (by kernel_rfl)) rfl (opensF_cons (opens_str Try.underlying9 (by kernel_rfl)) rfl (opensF_cons (opens_str Try.underlying9 (by kernel_rfl)) rfl (opensF_cons (opens_str Try.underlying9 (by kernel_rfl)) rfl (opensF_cons (opens_str Try.underlying9 (by kernel_rfl)) rfl (opensF_cons (opens_slice Try.underlying25 (by kernel_rfl) (by kernel_rfl) opens96) rfl (opensF_cons (opens_slice Try.underlying26 (by kernel_rfl) (by kernel_rfl) (opens_str Try.underlying9 (by kernel_rfl))) rfl (opensF_cons (opens_slice Try.underlying27 (by kernel_rfl) (by kernel_rfl) opens98) rfl (opensF_one opens28 rfl))))))))))))))))))) (by kernel_rfl) (fun ⟨x0, x1, x2, x3, x4, x5, x6, x7, x8, x9, x10, x11, x12, x13, x14, x15, x16, x17, x18⟩ => ⟨⟨x0, x1, x2, x3, x4, x5, x6, x7, x8, x9, x10, x11, x12, x13, x14, x15, x16, x17, x18⟩, rfl⟩)
  exact h
end Go.Proofs.Ythmnlopmocjpaaa.Gn
