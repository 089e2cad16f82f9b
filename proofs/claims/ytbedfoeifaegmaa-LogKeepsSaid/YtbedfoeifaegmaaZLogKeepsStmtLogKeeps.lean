import Derived.Test.YtbedfoeifaegmaaZLogKeepsGn38
import Derived.Test.YtbedfoeifaegmaaZLogKeepsGnR
namespace Go.Proofs.Ytbedfoeifaegmaa.Gn
open Go.RowKit Go.Proofs.YtbedfoeifaegmaaW.PrintWords Go.Proofs.YtbedfoeifaegmaaW.PrintLast Go.Proofs.Ytbedfoeifaegmaa.Opens
def LogKeeps.Pure : Prop := ∀ (a0 : List (S43)) (a1 : S43) (a2 : Int) (a3 : Int), (wfList 16 wf43) a0 → wf43 a1 → (wfInt .i64) a2 → (wfInt .i64) a3 → ∃ k, l06_LogKeeps.f k a0 a1.f0 a1.f1 a2 a3 = some true
end Go.Proofs.Ytbedfoeifaegmaa.Gn
