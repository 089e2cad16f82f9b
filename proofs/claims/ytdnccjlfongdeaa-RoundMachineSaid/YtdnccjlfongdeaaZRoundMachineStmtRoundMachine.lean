import Derived.Test.YtdnccjlfongdeaaZRoundMachineGn41
import Derived.Test.YtdnccjlfongdeaaZRoundMachineGnR
namespace Go.Proofs.Ytdnccjlfongdeaa.Gn
open Go.RowKit Go.Proofs.YtdnccjlfongdeaaW.PrintWords Go.Proofs.YtdnccjlfongdeaaW.PrintLast Go.Proofs.Ytdnccjlfongdeaa.Opens
def RoundMachine.Pure : Prop := ∀ (a0 : S26) (a1 : List ByteArray) (a2 : List (List (S45))), wf26 a0 → (wfList 16 wfStr) a1 → (wfList 24 (wfList 40 wf45)) a2 → ∃ k, l38_RoundMachine.f k a0.f0.f0 a0.f0.f1 a0.f0.f2 a0.f0.f3 a0.f0.f4 a0.f0.f5 a0.f0.f6 a0.f0.f7 a0.f0.f8 a0.f0.f9 a0.f0.f10 a0.f1 a0.f2 a0.f3 a1 a2 = some true
end Go.Proofs.Ytdnccjlfongdeaa.Gn
