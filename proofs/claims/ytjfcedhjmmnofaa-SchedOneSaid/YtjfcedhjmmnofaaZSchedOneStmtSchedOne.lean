import Derived.Test.YtjfcedhjmmnofaaZSchedOneGn18
import Derived.Test.YtjfcedhjmmnofaaZSchedOneGnR
namespace Go.Proofs.Ytjfcedhjmmnofaa.Gn
open Go.RowKit Go.Proofs.YtjfcedhjmmnofaaW.PrintWords Go.Proofs.YtjfcedhjmmnofaaW.PrintLast Go.Proofs.Ytjfcedhjmmnofaa.Opens
def SchedOne.Pure : Prop := ∀ (a0 : S24) (a1 : Int), wf24 a0 → (wfInt .i64) a1 → ∃ k, bellwetherlaw21_SchedOne.f k a0.f0 a0.f1 a0.f2 a0.f3 a0.f4 a0.f5 a0.f6 a0.f7 a0.f8 a0.f9 a0.f10 a1 = some true
end Go.Proofs.Ytjfcedhjmmnofaa.Gn
