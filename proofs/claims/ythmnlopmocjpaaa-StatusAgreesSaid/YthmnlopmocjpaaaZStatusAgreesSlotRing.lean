import Derived.Test.YthmnlopmocjpaaaZStatusAgreesGn6
import Derived.Test.YthmnlopmocjpaaaZStatusAgreesGn8
import Derived.Test.YthmnlopmocjpaaaZStatusAgreesGn23
import Derived.Test.YthmnlopmocjpaaaZStatusAgreesGn0
import Derived.Test.YthmnlopmocjpaaaZStatusAgreesGn2
import Derived.Test.YthmnlopmocjpaaaZStatusAgreesGn22
import Derived.Test.YthmnlopmocjpaaaZStatusAgreesRingFacts0
namespace Go.Proofs.Ythmnlopmocjpaaa.Facts
open Go.RowKit Go.Proofs.Ythmnlopmocjpaaa.Gn Go.Proofs.YthmnlopmocjpaaaW.PrintWords Go.Proofs.YthmnlopmocjpaaaW.PrintLast
theorem tmod_emod (a : Int) : (if Int.tmod a 65536 < 0 then wrap64 (Int.tmod a 65536 + 65536) else Int.tmod a 65536) = a % 65536 := by
  have h := Int.tmod_eq_emod (a := a) (b := 65536)
  unfold wrap64
  split <;> split at h <;> omega
theorem mod_wrap (a : Int) : num_Mod.f a 65536 = some (a % 65536) := by
  unfold num_Mod.f
  rw [if_neg (by decide), if_neg (by decide), ← tmod_emod a]
  split <;> rfl
theorem put_put (a : Int) : ring_put.f a = some (a % 65536) := by simp [ring_put.f, mod_wrap]
theorem diff_eq (a b : Int) : ring_Diff.f a b = some ((a - b) % 65536) := by
  simp only [ring_Diff.f, ring_clock_from.f, put_put, Option.bind_some]
  rw [w64 (by omega)]
  congr 1
  omega
theorem ref_mod_wrap (a : Int) : r01_Mod.f a 65536 = some (a % 65536) := by
  unfold r01_Mod.f
  rw [if_neg (by decide), if_neg (by decide), ← tmod_emod a]
  split <;> rfl
theorem ref_put_eq (a : Int) : r05_Put.f a = some (a % 65536) := by simp [r05_Put.f, ref_mod_wrap]
theorem ref_add_eq (a b : Int) : r05_Add.f a b = some ((a + b) % 65536) := by
  simp only [r05_Add.f, ref_put_eq, Option.bind_some]
  rw [w64 (by omega)]
  congr 1
  omega
theorem elapsed_eq (a b : Int) : slot_Elapsed.f a b = some ((a - b) % 65536) := by
  unfold slot_Elapsed.f
  rw [diff_eq]
  rfl
end Go.Proofs.Ythmnlopmocjpaaa.Facts
