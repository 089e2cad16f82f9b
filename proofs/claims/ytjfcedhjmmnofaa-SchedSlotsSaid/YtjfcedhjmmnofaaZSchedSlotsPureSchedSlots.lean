import Derived.Test.YtjfcedhjmmnofaaZSchedSlotsStmtSchedSlots
import Derived.Test.YtjfcedhjmmnofaaZSchedSlotsDueFacts
namespace Go.Proofs.Ytjfcedhjmmnofaa.Pure
open Go.RowKit Go.Proofs.Ytjfcedhjmmnofaa.Gn Go.Proofs.YtjfcedhjmmnofaaW.PrintWords Go.Proofs.YtjfcedhjmmnofaaW.PrintLast Go.Proofs.Ytjfcedhjmmnofaa.Facts Go.Proofs.Ytjfcedhjmmnofaa.Opens
theorem SchedSlots : Gn.SchedSlots.Pure := by
  intro c n e s _ _ he _
  refine ⟨1000, ?_⟩
  unfold bellwetherlaw21_SchedSlots.f
  by_cases h1 : (s.size : Int) > 60
  · rw [if_pos h1, known21 1000 (by omega)]; rfl
  rw [if_neg h1, slot_eq _ _ _ _ _ _ _ _ _ _ _ _ (wf_i64 he) 1000 (by omega), Option.bind_some, rslot_eq _ _ _ _ _ _ _ _ _ _ _ _ 1000 (by omega), Option.bind_some, if_pos rfl, owner_eq _ _ _ _ _ _ _ _ _ _ _ _ 1000 (by omega), Option.bind_some, rowner_eq _ _ _ _ _ _ _ _ _ _ _ _ 1000 (by omega), Option.bind_some, if_pos rfl, due_eq _ _ _ _ _ _ _ _ _ _ _ _ _ _ 1000 (by omega), Option.bind_some, rdue_eq _ _ _ _ _ _ _ _ _ _ _ _ _ _ 1000 (by omega), Option.bind_some, if_pos rfl, known21 1000 (by omega)]
  rfl
end Go.Proofs.Ytjfcedhjmmnofaa.Pure
