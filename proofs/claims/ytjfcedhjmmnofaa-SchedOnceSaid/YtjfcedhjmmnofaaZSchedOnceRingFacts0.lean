import Derived.Test.YtjfcedhjmmnofaaZSchedOnceGn0
namespace Go.Proofs.Ytjfcedhjmmnofaa.Facts
open Go.RowKit Go.Proofs.Ytjfcedhjmmnofaa.Gn Go.Proofs.YtjfcedhjmmnofaaW.PrintWords Go.Proofs.YtjfcedhjmmnofaaW.PrintLast
theorem w64 {a : Int} (h : -9223372036854775808 ≤ a ∧ a ≤ 9223372036854775807) : wrap64 a = a := by
  unfold wrap64; omega
end Go.Proofs.Ytjfcedhjmmnofaa.Facts
