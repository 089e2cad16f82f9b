import Derived.Test.YtbedfoeifaegmaaZLogKeepsGn11
import Derived.Test.YtbedfoeifaegmaaZLogKeepsGn12
import Derived.Test.YtbedfoeifaegmaaZLogKeepsRingFacts
namespace Go.Proofs.Ytbedfoeifaegmaa.Facts
open Go.RowKit Go.Proofs.Ytbedfoeifaegmaa.Gn Go.Proofs.YtbedfoeifaegmaaW.PrintWords Go.Proofs.YtbedfoeifaegmaaW.PrintLast
set_option linter.unusedVariables false
theorem ref_mod_wrap (a : Int) : r01_Mod.f a 65536 = some (a % 65536) := by
  unfold r01_Mod.f
  rw [if_neg (by decide), if_neg (by decide), ← tmod_emod a]
  split <;> rfl
theorem ref_put_eq (a : Int) : r05_Put.f a = some (a % 65536) := by simp [r05_Put.f, ref_mod_wrap]
theorem ref_diff_eq (a b : Int) : r05_Diff.f a b = some ((a - b) % 65536) := by
  simp only [r05_Diff.f, ref_put_eq, Option.bind_some]
  rw [w64 (by omega)]
  congr 1
  omega
theorem ref_signed_eq (a b : Int) : r05_Signed.f a b = some (sgn a b) := by
  simp only [r05_Signed.f, ref_diff_eq, Option.bind_some, sgn, ge_iff_le]
  split
  · rw [w64 (by omega)]
  · rfl
end Go.Proofs.Ytbedfoeifaegmaa.Facts
