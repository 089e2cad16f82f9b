import Derived.Test.YthmnlopmocjpaaaZStatusAgreesGn41
import Derived.Test.YthmnlopmocjpaaaZStatusAgreesGnR
namespace Go.Proofs.Ythmnlopmocjpaaa.Gn
open Go.RowKit Go.Proofs.YthmnlopmocjpaaaW.PrintWords Go.Proofs.YthmnlopmocjpaaaW.PrintLast Go.Proofs.Ythmnlopmocjpaaa.Opens
def StatusAgrees.Pure : Prop := ∀ (a0 : S24) (a1 : S30) (a2 : List Int) (a3 : Int), wf24 a0 → wf30 a1 → (wfList 8 (wfInt .i64)) a2 → (wfInt .i64) a3 → ∃ k, l27_StatusAgrees.f k a0.f0 a0.f1 a0.f2 a0.f3 a0.f4 a0.f5 a0.f6 a0.f7 a0.f8 a0.f9 a0.f10 a1.f0 a1.f1 a1.f2 a1.f3 a1.f4 a1.f5 a1.f6 a1.f7 a1.f8 a1.f9 a1.f10 a1.f11 a1.f12 a1.f13 a1.f14 a1.f15 a1.f16 a1.f17 a1.f18.f0 a1.f18.f1 a1.f18.f2 a1.f18.f3 a1.f18.f4 a1.f18.f5 a2 a3 = some true
end Go.Proofs.Ythmnlopmocjpaaa.Gn
