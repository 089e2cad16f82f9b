import Derived.Test.YtbedfoeifaegmaaZRateFairGn32
import Derived.Test.YtbedfoeifaegmaaZRateFairGnR
namespace Go.Proofs.Ytbedfoeifaegmaa.Gn
open Go.RowKit Go.Proofs.YtbedfoeifaegmaaW.PrintWords Go.Proofs.YtbedfoeifaegmaaW.PrintLast Go.Proofs.Ytbedfoeifaegmaa.Opens
def RateFair.Pure : Prop := ∀ (a0 : S24) (a1 : List Int) (a2 : Int), wf24 a0 → (wfList 8 (wfInt .i64)) a1 → (wfInt .i64) a2 → ∃ k, l07_RateFair.f k a0.f0 a0.f1 a0.f2 a0.f3 a1 a2 = some true
end Go.Proofs.Ytbedfoeifaegmaa.Gn
