import Derived.Test.YthmnlopmocjpaaaZStatusMuteGn0
namespace Go.Proofs.Ythmnlopmocjpaaa.Facts
open Go.RowKit Go.Proofs.Ythmnlopmocjpaaa.Gn Go.Proofs.YthmnlopmocjpaaaW.PrintWords Go.Proofs.YthmnlopmocjpaaaW.PrintLast
theorem w64 {a : Int} (h : -9223372036854775808 ≤ a ∧ a ≤ 9223372036854775807) : wrap64 a = a := by
  unfold wrap64; omega
end Go.Proofs.Ythmnlopmocjpaaa.Facts
