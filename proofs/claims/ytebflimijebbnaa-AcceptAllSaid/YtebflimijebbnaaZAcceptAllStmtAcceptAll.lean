import Derived.Test.YtebflimijebbnaaZAcceptAllGn36
import Derived.Test.YtebflimijebbnaaZAcceptAllGnR
namespace Go.Proofs.Ytebflimijebbnaa.Gn
open Go.RowKit Go.Proofs.YtebflimijebbnaaW.PrintWords Go.Proofs.YtebflimijebbnaaW.PrintLast Go.Proofs.Ytebflimijebbnaa.Opens
def AcceptAll.Pure : Prop := ∀ (a0 : S24) (a1 : S30) (a2 : List (S32)), wf24 a0 → wf30 a1 → (wfList 72 wf32) a2 → ∃ k, l24_AcceptAll.f k a0.f0 a0.f1 a0.f2 a0.f3 a0.f4 a0.f5 a0.f6 a0.f7 a0.f8 a0.f9 a0.f10 a1.f0 a1.f1 a1.f2 a1.f3 a1.f4 a1.f5 a1.f6 a1.f7 a1.f8 a1.f9 a1.f10 a1.f11 a1.f12 a1.f13 a1.f14 a1.f15 a1.f16 a1.f17 a1.f18.f0 a1.f18.f1 a1.f18.f2 a1.f18.f3 a1.f18.f4 a1.f18.f5 a2 = some true
end Go.Proofs.Ytebflimijebbnaa.Gn
