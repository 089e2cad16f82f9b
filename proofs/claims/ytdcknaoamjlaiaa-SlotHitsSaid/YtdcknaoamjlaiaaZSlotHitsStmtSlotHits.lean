import Derived.Test.YtdcknaoamjlaiaaZSlotHitsGn69
import Derived.Test.YtdcknaoamjlaiaaZSlotHitsGnR
namespace Go.Proofs.Ytdcknaoamjlaiaa.Gn
open Go.RowKit Go.Proofs.YtdcknaoamjlaiaaW.PrintWords Go.Proofs.YtdcknaoamjlaiaaW.PrintLast Go.Proofs.Ytdcknaoamjlaiaa.Opens
def SlotHits.Pure : Prop := ∀ (a0 : S24) (a1 : Int) (a2 : S73), wf24 a0 → (wfInt .i64) a1 → wf73 a2 → ∃ k, bellwetherlaw22_SlotHits.f k a0.f0 a0.f1 a0.f2 a0.f3 a0.f4 a0.f5 a0.f6 a0.f7 a0.f8 a0.f9 a0.f10 a1 a2.f0 a2.f1 a2.f2 a2.f3 = some true
end Go.Proofs.Ytdcknaoamjlaiaa.Gn
