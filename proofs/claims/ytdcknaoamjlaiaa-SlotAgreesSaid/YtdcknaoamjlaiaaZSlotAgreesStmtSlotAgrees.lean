import Derived.Test.YtdcknaoamjlaiaaZSlotAgreesGn68
import Derived.Test.YtdcknaoamjlaiaaZSlotAgreesGnR
namespace Go.Proofs.Ytdcknaoamjlaiaa.Gn
open Go.RowKit Go.Proofs.YtdcknaoamjlaiaaW.PrintWords Go.Proofs.YtdcknaoamjlaiaaW.PrintLast Go.Proofs.Ytdcknaoamjlaiaa.Opens
def SlotAgrees.Pure : Prop := ∀ (a0 : S24) (a1 : Int) (a2 : List Int) (a3 : Int), wf24 a0 → (wfInt .i64) a1 → (wfList 8 (wfInt .i64)) a2 → (wfInt .i64) a3 → ∃ k, bellwetherlaw22_SlotAgrees.f k a0.f0 a0.f1 a0.f2 a0.f3 a0.f4 a0.f5 a0.f6 a0.f7 a0.f8 a0.f9 a0.f10 a1 a2 a3 = some true
end Go.Proofs.Ytdcknaoamjlaiaa.Gn
