import Derived.Test.YtdcknaoamjlaiaaZSlotPlacesStmtSlotPlaces
import Derived.Test.YtdcknaoamjlaiaaZSlotPlacesSlotFacts
namespace Go.Proofs.Ytdcknaoamjlaiaa.Pure
open Go.RowKit Go.Proofs.Ytdcknaoamjlaiaa.Gn Go.Proofs.YtdcknaoamjlaiaaW.PrintWords Go.Proofs.YtdcknaoamjlaiaaW.PrintLast Go.Proofs.Ytdcknaoamjlaiaa.Facts Go.Proofs.Ytdcknaoamjlaiaa.Opens
theorem SlotPlaces : Gn.SlotPlaces.Pure := by
  intro c a b t _ _ _ _
  refine ⟨1000, ?_⟩
  unfold bellwetherlaw22_SlotPlaces.f
  rw [elapsed_eq, Option.bind_some, relapsed_eq, Option.bind_some, if_pos rfl, now_eq _ _ _ _ _ _ _ _ _ _ _ _ _ 1000 (by omega), Option.bind_some, rnow_eq _ _ _ _ _ _ _ _ _ _ _ _ _ 1000 (by omega), Option.bind_some, if_pos rfl, nominal_eq _ _ _ _ _ _ _ _ _ _ _ _ 1000 (by omega), Option.bind_some, rnominal_eq _ _ _ _ _ _ _ _ _ _ _ _ 1000 (by omega), Option.bind_some, if_pos rfl, known22 1000 (by omega)]
  rfl
end Go.Proofs.Ytdcknaoamjlaiaa.Pure
