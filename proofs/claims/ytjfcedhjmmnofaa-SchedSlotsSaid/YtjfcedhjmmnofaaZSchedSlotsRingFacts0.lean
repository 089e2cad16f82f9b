import Derived.Test.YtjfcedhjmmnofaaZSchedSlotsGn0
namespace Go.Proofs.Ytjfcedhjmmnofaa.Facts
open Go.RowKit Go.Proofs.Ytjfcedhjmmnofaa.Gn Go.Proofs.YtjfcedhjmmnofaaW.PrintWords Go.Proofs.YtjfcedhjmmnofaaW.PrintLast
theorem wf_i64 {a : Int} (h : (Lit.int .i64 a).wf = true) : -9223372036854775808 ≤ a ∧ a ≤ 9223372036854775807 := by
  simp [Lit.wf, IntKind.min, IntKind.max, IntKind.signed, IntKind.bits] at h
  omega
theorem w64 {a : Int} (h : -9223372036854775808 ≤ a ∧ a ≤ 9223372036854775807) : wrap64 a = a := by
  unfold wrap64; omega
end Go.Proofs.Ytjfcedhjmmnofaa.Facts
