import Derived.Test.YtjfcedhjmmnofaaZBoundRightStmtBoundRight
import Derived.Test.YtjfcedhjmmnofaaZBoundRightRingFacts0
import Derived.Test.YtjfcedhjmmnofaaZBoundRightConfFacts
import Derived.Test.YtjfcedhjmmnofaaZBoundRightBoundFacts
import Derived.Test.YtjfcedhjmmnofaaZBoundRightBoundRef
import Derived.Test.YtjfcedhjmmnofaaZBoundRightBoundKnown
namespace Go.Proofs.Ytjfcedhjmmnofaa.Pure
open Go.RowKit Go.Proofs.Ytjfcedhjmmnofaa.Gn Go.Proofs.YtjfcedhjmmnofaaW.PrintWords Go.Proofs.YtjfcedhjmmnofaaW.PrintLast Go.Proofs.Ytjfcedhjmmnofaa.Facts Go.Proofs.Ytjfcedhjmmnofaa.Opens
theorem BoundRight : Gn.BoundRight.Pure := by
  intro c _
  refine ⟨1000, ?_⟩
  unfold bellwetherlaw04_BoundRight.f
  rw [right_eq _ _ _ _ _ _ _ _ _ _ _ 1000 (by omega), ref_right_eq _ _ _ _ _ _ _ _ _ _ _ 1000 (by omega), guard_eq _ _ _ _ _ _ _ _ _ _ _ 1000 (by omega), ref_guard_eq _ _ _ _ _ _ _ _ _ _ _ 1000 (by omega), settle_eq _ _ _ _ _ _ _ _ _ _ _ 1000 (by omega), ref_settle_eq _ _ _ _ _ _ _ _ _ _ _ 1000 (by omega), all_eq _ _ _ _ _ _ _ _ _ _ _ 1000 (by omega), ref_all_eq _ _ _ _ _ _ _ _ _ _ _ 1000 (by omega), known04 1000 (by omega)]
  simp
end Go.Proofs.Ytjfcedhjmmnofaa.Pure
