import Derived.Test.YtdcknaoamjlaiaaZSlotWindowsStmtSlotWindows
import Derived.Test.YtdcknaoamjlaiaaZSlotWindowsSlotFacts
namespace Go.Proofs.Ytdcknaoamjlaiaa.Pure
open Go.RowKit Go.Proofs.Ytdcknaoamjlaiaa.Gn Go.Proofs.YtdcknaoamjlaiaaW.PrintWords Go.Proofs.YtdcknaoamjlaiaaW.PrintLast Go.Proofs.Ytdcknaoamjlaiaa.Facts Go.Proofs.Ytdcknaoamjlaiaa.Opens
theorem SlotWindows : Gn.SlotWindows.Pure := by
  intro c t i e _ _ _ _
  refine ⟨1000, ?_⟩
  unfold bellwetherlaw22_SlotWindows.f
  rw [window_eq _ _ _ _ _ _ _ _ _ _ _ _ 1000 (by omega), Option.bind_some, rwindow_eq _ _ _ _ _ _ _ _ _ _ _ _ 1000 (by omega), Option.bind_some, clear_eq _ _ _ _ _ _ _ _ _ _ _ _ 1000 (by omega), Option.bind_some, rclear_eq _ _ _ _ _ _ _ _ _ _ _ _ 1000 (by omega), Option.bind_some, beq_self_eq_true, if_pos rfl, if_pos rfl, if_pos rfl, hit_eq _ _ _ _ _ _ _ _ _ _ _ _ 1000 (by omega), Option.bind_some, rhit_eq _ _ _ _ _ _ _ _ _ _ _ _ 1000 (by omega), Option.bind_some, if_pos rfl, known22 1000 (by omega)]
  rfl
end Go.Proofs.Ytdcknaoamjlaiaa.Pure
