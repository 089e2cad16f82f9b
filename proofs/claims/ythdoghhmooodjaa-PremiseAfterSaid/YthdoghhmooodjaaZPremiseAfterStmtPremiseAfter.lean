import Derived.Test.YthdoghhmooodjaaZPremiseAfterGn62
import Derived.Test.YthdoghhmooodjaaZPremiseAfterGnR
namespace Go.Proofs.Ythdoghhmooodjaa.Gn
open Go.RowKit Go.Proofs.YthdoghhmooodjaaW.PrintWords Go.Proofs.YthdoghhmooodjaaW.PrintLast Go.Proofs.Ythdoghhmooodjaa.Opens
def PremiseAfter.Pure : Prop := ∀ (a0 : S28) (a1 : ByteArray), wf28 a0 → wfStr a1 → ∃ k, l34_PremiseAfter.f k a0.f0.f0 a0.f0.f1 a0.f0.f2 a0.f0.f3 a0.f0.f4 a0.f0.f5 a0.f0.f6 a0.f0.f7 a0.f0.f8 a0.f0.f9 a0.f0.f10 a0.f1 a0.f2 a0.f3 a1 = some true
end Go.Proofs.Ythdoghhmooodjaa.Gn
