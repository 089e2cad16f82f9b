/- Plain facts on the reference's clocks. -/
import Derived.Test.YtegkddcipobnaaaGn1
import Derived.Test.YtegkddcipobnaaaRingFacts
namespace Go.Proofs.Ytegkddcipobnaaa.Facts
open Go.RowKit Go.Proofs.Ytegkddcipobnaaa.Gn Go.Proofs.YtegkddcipobnaaaW.PrintWords Go.Proofs.YtegkddcipobnaaaW.PrintLast
set_option linter.unusedVariables false
theorem ref_mod_wrap (a : Int) : bellwetherref01_Mod.f a 65536 = some (a % 65536) := by
  unfold bellwetherref01_Mod.f
  rw [if_neg (by decide), if_neg (by decide), ← tmod_emod a]
  split <;> rfl
theorem ref_put_eq (a : Int) : bellwetherref05_Put.f a = some (a % 65536) := by simp [bellwetherref05_Put.f, ref_mod_wrap]
theorem ref_add_eq (a b : Int) : bellwetherref05_Add.f a b = some ((a + b) % 65536) := by
  simp only [bellwetherref05_Add.f, ref_put_eq, Option.bind_some]
  rw [w64 (by omega)]
  congr 1
  omega
theorem ref_diff_eq (a b : Int) : bellwetherref05_Diff.f a b = some ((a - b) % 65536) := by
  simp only [bellwetherref05_Diff.f, ref_put_eq, Option.bind_some]
  rw [w64 (by omega)]
  congr 1
  omega
theorem ref_signed_eq (a b : Int) : bellwetherref05_Signed.f a b = some (sgn a b) := by
  simp only [bellwetherref05_Signed.f, ref_diff_eq, Option.bind_some, sgn, ge_iff_le]
  split
  · rw [w64 (by omega)]
  · rfl
theorem ref_before_eq (a b : Int) : bellwetherref05_Before.f a b = some (decide (sgn a b < 0)) := by simp [bellwetherref05_Before.f, ref_signed_eq]
end Go.Proofs.Ytegkddcipobnaaa.Facts
