import Derived.Test.YtebflimijebbnaaZAcceptOneGn0
namespace Go.Proofs.Ytebflimijebbnaa.Facts
open Go.RowKit Go.Proofs.Ytebflimijebbnaa.Gn Go.Proofs.YtebflimijebbnaaW.PrintWords Go.Proofs.YtebflimijebbnaaW.PrintLast
theorem w64 {a : Int} (h : -9223372036854775808 ≤ a ∧ a ≤ 9223372036854775807) : wrap64 a = a := by
  unfold wrap64; omega
end Go.Proofs.Ytebflimijebbnaa.Facts
