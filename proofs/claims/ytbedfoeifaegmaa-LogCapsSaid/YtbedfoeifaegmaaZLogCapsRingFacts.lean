import Derived.Test.YtbedfoeifaegmaaZLogCapsGn4
import Derived.Test.YtbedfoeifaegmaaZLogCapsGn5
import Derived.Test.YtbedfoeifaegmaaZLogCapsGn0
namespace Go.Proofs.Ytbedfoeifaegmaa.Facts
open Go.RowKit Go.Proofs.Ytbedfoeifaegmaa.Gn Go.Proofs.YtbedfoeifaegmaaW.PrintWords Go.Proofs.YtbedfoeifaegmaaW.PrintLast
set_option linter.unusedVariables false
theorem w64 {a : Int} (h : -9223372036854775808 ≤ a ∧ a ≤ 9223372036854775807) : wrap64 a = a := by
  unfold wrap64; omega
theorem tmod_emod (a : Int) : (if Int.tmod a 65536 < 0 then wrap64 (Int.tmod a 65536 + 65536) else Int.tmod a 65536) = a % 65536 := by
  have h := Int.tmod_eq_emod (a := a) (b := 65536)
  unfold wrap64
  split <;> split at h <;> omega
theorem mod_wrap (a : Int) : num_Mod.f a 65536 = some (a % 65536) := by
  unfold num_Mod.f
  rw [if_neg (by decide), if_neg (by decide), ← tmod_emod a]
  split <;> rfl
theorem put_put (a : Int) : ring_put.f a = some (a % 65536) := by simp [ring_put.f, mod_wrap]
theorem diff_eq (a b : Int) : ring_Diff.f a b = some ((a - b) % 65536) := by
  simp only [ring_Diff.f, ring_clock_from.f, put_put, Option.bind_some]
  rw [w64 (by omega)]
  congr 1
  omega
/-- How far a clock has gone, ahead or behind. -/
def sgn (a b : Int) : Int := if 32768 ≤ (a - b) % 65536 then (a - b) % 65536 - 65536 else (a - b) % 65536
theorem signed_eq (a b : Int) : ring_Signed.f a b = some (sgn a b) := by
  simp only [ring_Signed.f, diff_eq, Option.bind_some, sgn]
  split
  · rw [w64 (by omega)]
  · rfl
end Go.Proofs.Ytbedfoeifaegmaa.Facts
