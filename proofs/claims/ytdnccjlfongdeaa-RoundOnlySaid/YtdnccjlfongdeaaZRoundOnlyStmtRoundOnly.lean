import Derived.Test.YtdnccjlfongdeaaZRoundOnlyGn42
import Derived.Test.YtdnccjlfongdeaaZRoundOnlyGnR
namespace Go.Proofs.Ytdnccjlfongdeaa.Gn
open Go.RowKit Go.Proofs.YtdnccjlfongdeaaW.PrintWords Go.Proofs.YtdnccjlfongdeaaW.PrintLast Go.Proofs.Ytdnccjlfongdeaa.Opens
def RoundOnly.Pure : Prop := ∀ (a0 : S24) (a1 : List Int) (a2 : S32), wf24 a0 → (wfList 8 (wfInt .i64)) a1 → wf32 a2 → ∃ k, l38_RoundOnly.f k a0.f0 a0.f1 a0.f2 a0.f3 a0.f4 a0.f5 a0.f6 a0.f7 a0.f8 a0.f9 a0.f10 a1 a2.f0 a2.f1 a2.f2 a2.f3 = some true
end Go.Proofs.Ytdnccjlfongdeaa.Gn
