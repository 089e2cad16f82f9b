import Derived.Test.YtjfcedhjmmnofaaZBoundRightGn18
import Derived.Test.YtjfcedhjmmnofaaZBoundRightGnR
namespace Go.Proofs.Ytjfcedhjmmnofaa.Gn
open Go.RowKit Go.Proofs.YtjfcedhjmmnofaaW.PrintWords Go.Proofs.YtjfcedhjmmnofaaW.PrintLast Go.Proofs.Ytjfcedhjmmnofaa.Opens
def BoundRight.Pure : Prop := ∀ (a0 : S24), wf24 a0 → ∃ k, bellwetherlaw04_BoundRight.f k a0.f0 a0.f1 a0.f2 a0.f3 a0.f4 a0.f5 a0.f6 a0.f7 a0.f8 a0.f9 a0.f10 = some true
end Go.Proofs.Ytjfcedhjmmnofaa.Gn
