import Derived.Test.YtbedfoeifaegmaaZLogWiderGn40
import Derived.Test.YtbedfoeifaegmaaZLogWiderGnR
namespace Go.Proofs.Ytbedfoeifaegmaa.Gn
open Go.RowKit Go.Proofs.YtbedfoeifaegmaaW.PrintWords Go.Proofs.YtbedfoeifaegmaaW.PrintLast Go.Proofs.Ytbedfoeifaegmaa.Opens
def LogWider.Pure : Prop := ∀ (a0 : List (S43)) (a1 : Int) (a2 : Int) (a3 : Int), (wfList 16 wf43) a0 → (wfInt .i64) a1 → (wfInt .i64) a2 → (wfInt .i64) a3 → ∃ k, l06_LogWider.f k a0 a1 a2 a3 = some true
end Go.Proofs.Ytbedfoeifaegmaa.Gn
