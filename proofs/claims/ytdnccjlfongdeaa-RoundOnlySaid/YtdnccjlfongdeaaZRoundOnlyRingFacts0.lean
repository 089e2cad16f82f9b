import Derived.Test.YtdnccjlfongdeaaZRoundOnlyGn0
namespace Go.Proofs.Ytdnccjlfongdeaa.Facts
open Go.RowKit Go.Proofs.Ytdnccjlfongdeaa.Gn Go.Proofs.YtdnccjlfongdeaaW.PrintWords Go.Proofs.YtdnccjlfongdeaaW.PrintLast
theorem w64 {a : Int} (h : -9223372036854775808 ≤ a ∧ a ≤ 9223372036854775807) : wrap64 a = a := by
  unfold wrap64; omega
end Go.Proofs.Ytdnccjlfongdeaa.Facts
