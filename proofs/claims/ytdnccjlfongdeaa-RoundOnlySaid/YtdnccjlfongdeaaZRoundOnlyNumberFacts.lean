import Derived.Test.YtdnccjlfongdeaaZRoundOnlyGn5
import Derived.Test.YtdnccjlfongdeaaZRoundOnlyGn7
import Derived.Test.YtdnccjlfongdeaaZRoundOnlyGn15
import Derived.Test.YtdnccjlfongdeaaZRoundOnlyGn0
import Derived.Test.YtdnccjlfongdeaaZRoundOnlyGn2
import Derived.Test.YtdnccjlfongdeaaZRoundOnlyGn24
import Derived.Test.YtdnccjlfongdeaaZRoundOnlyRingFacts0
import Derived.Test.YtdnccjlfongdeaaZRoundOnlyCommon
import Derived.Test.YtdnccjlfongdeaaZRoundOnlyConfFacts
import Derived.Test.YtdnccjlfongdeaaZRoundOnlyBoundFacts
namespace Go.Proofs.Ytdnccjlfongdeaa.Facts
open Go.RowKit Go.Proofs.Ytdnccjlfongdeaa.Gn Go.Proofs.YtdnccjlfongdeaaW.PrintWords Go.Proofs.YtdnccjlfongdeaaW.PrintLast
set_option linter.unusedVariables false
theorem mod_eq (a m : Int) (hm : 1 ≤ m ∧ m ≤ 1000) : num_Mod.f a m = some (a % m) := by
  unfold num_Mod.f
  rw [if_neg (by omega), if_neg (by omega), ← tmod_pos a m hm]
  split <;> rfl
section
variable (c0 c1 c2 c3 c4 c5 c6 c7 c8 c9 : Int) (l : List Int)
end
end Go.Proofs.Ytdnccjlfongdeaa.Facts
