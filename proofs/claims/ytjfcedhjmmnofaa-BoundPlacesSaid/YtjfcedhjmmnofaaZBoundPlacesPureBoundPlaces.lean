import Derived.Test.YtjfcedhjmmnofaaZBoundPlacesStmtBoundPlaces
import Derived.Test.YtjfcedhjmmnofaaZBoundPlacesRingFacts0
import Derived.Test.YtjfcedhjmmnofaaZBoundPlacesConfFacts
import Derived.Test.YtjfcedhjmmnofaaZBoundPlacesBoundFacts
import Derived.Test.YtjfcedhjmmnofaaZBoundPlacesBoundRef
import Derived.Test.YtjfcedhjmmnofaaZBoundPlacesBoundKnown
namespace Go.Proofs.Ytjfcedhjmmnofaa.Pure
open Go.RowKit Go.Proofs.Ytjfcedhjmmnofaa.Gn Go.Proofs.YtjfcedhjmmnofaaW.PrintWords Go.Proofs.YtjfcedhjmmnofaaW.PrintLast Go.Proofs.Ytjfcedhjmmnofaa.Facts Go.Proofs.Ytjfcedhjmmnofaa.Opens
theorem BoundPlaces : Gn.BoundPlaces.Pure := by
  intro c i _ _
  refine ⟨1000, ?_⟩
  unfold bellwetherlaw04_BoundPlaces.f
  rw [begin_eq _ _ _ _ _ _ _ _ _ _ _ 1000 (by omega), ref_begin_eq _ _ _ _ _ _ _ _ _ _ _ 1000 (by omega), middle_eq _ _ _ _ _ _ _ _ _ _ _ 1000 (by omega), ref_middle_eq _ _ _ _ _ _ _ _ _ _ _ 1000 (by omega), known04 1000 (by omega)]
  simp
end Go.Proofs.Ytjfcedhjmmnofaa.Pure
