import Derived.Test.YtbedfoeifaegmaaZRateForgetsGn33
import Derived.Test.YtbedfoeifaegmaaZRateForgetsGnR
namespace Go.Proofs.Ytbedfoeifaegmaa.Gn
open Go.RowKit Go.Proofs.YtbedfoeifaegmaaW.PrintWords Go.Proofs.YtbedfoeifaegmaaW.PrintLast Go.Proofs.Ytbedfoeifaegmaa.Opens
def RateForgets.Pure : Prop := ∀ (a0 : S24) (a1 : Int), wf24 a0 → (wfInt .i64) a1 → ∃ k, l07_RateForgets.f k a0.f0 a0.f1 a0.f2 a0.f3 a1 = some true
end Go.Proofs.Ytbedfoeifaegmaa.Gn
