import Derived.Test.YtdnccjlfongdeaaZRoundMachineGn5
import Derived.Test.YtdnccjlfongdeaaZRoundMachineGn7
import Derived.Test.YtdnccjlfongdeaaZRoundMachineGn15
import Derived.Test.YtdnccjlfongdeaaZRoundMachineGn0
import Derived.Test.YtdnccjlfongdeaaZRoundMachineGn2
import Derived.Test.YtdnccjlfongdeaaZRoundMachineGn24
import Derived.Test.YtdnccjlfongdeaaZRoundMachineRingFacts0
import Derived.Test.YtdnccjlfongdeaaZRoundMachineCommon
import Derived.Test.YtdnccjlfongdeaaZRoundMachineConfFacts
import Derived.Test.YtdnccjlfongdeaaZRoundMachineBoundFacts
namespace Go.Proofs.Ytdnccjlfongdeaa.Facts
open Go.RowKit Go.Proofs.Ytdnccjlfongdeaa.Gn Go.Proofs.YtdnccjlfongdeaaW.PrintWords Go.Proofs.YtdnccjlfongdeaaW.PrintLast
set_option linter.unusedVariables false
theorem mod_eq (a m : Int) (hm : 1 ≤ m ∧ m ≤ 1000) : num_Mod.f a m = some (a % m) := by
  unfold num_Mod.f
  rw [if_neg (by omega), if_neg (by omega), ← tmod_pos a m hm]
  split <;> rfl
theorem emod_bd (a m : Int) (hm : 1 ≤ m) : 0 ≤ a % m ∧ a % m < m := ⟨Int.emod_nonneg a (by omega), Int.emod_lt_of_pos a (by omega)⟩
section
variable (c0 c1 c2 c3 c4 c5 c6 c7 c8 c9 : Int) (l : List Int)
def apartV (a b : Int) : Int := (b % c8 - a % c8) % c8
theorem apart_eq (a b : Int) (k : Nat) (hk : 9 ≤ k) : number_Apart.f k c0 c1 c2 c3 c4 c5 c6 c7 c8 c9 l a b = some (if plainE c0 c1 c2 c3 c4 c5 c6 c7 c8 c9 l = 0 then apartV c8 a b else 0) := by
  unfold number_Apart.f
  rw [plain_eq k (by omega), Option.bind_some]
  by_cases hp : plainE c0 c1 c2 c3 c4 c5 c6 c7 c8 c9 l = 0
  · have hm := (plain_iff.1 hp).m
    have := emod_bd a c8 (by omega)
    have := emod_bd b c8 (by omega)
    rw [if_pos hp, if_pos hp, mod_eq _ _ (by omega), Option.bind_some, mod_eq _ _ (by omega), Option.bind_some, w64 (by omega), mod_eq _ _ (by omega)]
    rfl
  · rw [if_neg hp, if_neg hp]
end
end Go.Proofs.Ytdnccjlfongdeaa.Facts
