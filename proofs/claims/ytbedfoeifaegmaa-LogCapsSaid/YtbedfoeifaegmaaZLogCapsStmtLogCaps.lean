import Derived.Test.YtbedfoeifaegmaaZLogCapsGn41
import Derived.Test.YtbedfoeifaegmaaZLogCapsGnR
namespace Go.Proofs.Ytbedfoeifaegmaa.Gn
open Go.RowKit Go.Proofs.YtbedfoeifaegmaaW.PrintWords Go.Proofs.YtbedfoeifaegmaaW.PrintLast Go.Proofs.Ytbedfoeifaegmaa.Opens
def LogCaps.Pure : Prop := ∀ (a0 : List (S43)) (a1 : List (S43)), (wfList 16 wf43) a0 → (wfList 16 wf43) a1 → ∃ k, l06_LogCaps.f k a0 a1 = some true
end Go.Proofs.Ytbedfoeifaegmaa.Gn
