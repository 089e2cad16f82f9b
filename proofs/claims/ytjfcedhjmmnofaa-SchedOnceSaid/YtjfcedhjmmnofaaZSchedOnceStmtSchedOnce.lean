import Derived.Test.YtjfcedhjmmnofaaZSchedOnceGn54
import Derived.Test.YtjfcedhjmmnofaaZSchedOnceGnR
namespace Go.Proofs.Ytjfcedhjmmnofaa.Gn
open Go.RowKit Go.Proofs.YtjfcedhjmmnofaaW.PrintWords Go.Proofs.YtjfcedhjmmnofaaW.PrintLast Go.Proofs.Ytjfcedhjmmnofaa.Opens
def SchedOnce.Pure : Prop := ∀ (a0 : S24) (a1 : Int) (a2 : List Int), wf24 a0 → (wfInt .i64) a1 → (wfList 8 (wfInt .i64)) a2 → ∃ k, bellwetherlaw21_SchedOnce.f k a0.f0 a0.f1 a0.f2 a0.f3 a0.f4 a0.f5 a0.f6 a0.f7 a0.f8 a0.f9 a0.f10 a1 a2 = some true
end Go.Proofs.Ytjfcedhjmmnofaa.Gn
