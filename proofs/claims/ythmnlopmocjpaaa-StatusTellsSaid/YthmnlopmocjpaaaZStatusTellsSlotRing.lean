import Derived.Test.YthmnlopmocjpaaaZStatusTellsGn6
import Derived.Test.YthmnlopmocjpaaaZStatusTellsGn8
import Derived.Test.YthmnlopmocjpaaaZStatusTellsGn23
import Derived.Test.YthmnlopmocjpaaaZStatusTellsGn25
import Derived.Test.YthmnlopmocjpaaaZStatusTellsGn0
import Derived.Test.YthmnlopmocjpaaaZStatusTellsRingFacts0
import Derived.Test.YthmnlopmocjpaaaZStatusTellsGn2
import Derived.Test.YthmnlopmocjpaaaZStatusTellsGn22
import Derived.Test.YthmnlopmocjpaaaZStatusTellsConfFacts
import Derived.Test.YthmnlopmocjpaaaZStatusTellsBoundFacts
import Derived.Test.YthmnlopmocjpaaaZStatusTellsSchedFacts
namespace Go.Proofs.Ythmnlopmocjpaaa.Facts
open Go.RowKit Go.Proofs.Ythmnlopmocjpaaa.Gn Go.Proofs.YthmnlopmocjpaaaW.PrintWords Go.Proofs.YthmnlopmocjpaaaW.PrintLast
theorem tmod_emod (a : Int) : (if Int.tmod a 65536 < 0 then wrap64 (Int.tmod a 65536 + 65536) else Int.tmod a 65536) = a % 65536 := by
  have h := Int.tmod_eq_emod (a := a) (b := 65536)
  unfold wrap64
  split <;> split at h <;> omega
theorem mod_wrap (a : Int) : num_Mod.f a 65536 = some (a % 65536) := by
  unfold num_Mod.f
  rw [if_neg (by decide), if_neg (by decide), ← tmod_emod a]
  split <;> rfl
theorem put_put (a : Int) : ring_put.f a = some (a % 65536) := by simp [ring_put.f, mod_wrap]
theorem diff_eq (a b : Int) : ring_Diff.f a b = some ((a - b) % 65536) := by
  simp only [ring_Diff.f, ring_clock_from.f, put_put, Option.bind_some]
  rw [w64 (by omega)]
  congr 1
  omega
theorem ref_mod_wrap (a : Int) : r01_Mod.f a 65536 = some (a % 65536) := by
  unfold r01_Mod.f
  rw [if_neg (by decide), if_neg (by decide), ← tmod_emod a]
  split <;> rfl
theorem ref_put_eq (a : Int) : r05_Put.f a = some (a % 65536) := by simp [r05_Put.f, ref_mod_wrap]
theorem ref_diff_eq (a b : Int) : r05_Diff.f a b = some ((a - b) % 65536) := by
  simp only [r05_Diff.f, ref_put_eq, Option.bind_some]
  rw [w64 (by omega)]
  congr 1
  omega
theorem elapsed_eq (a b : Int) : slot_Elapsed.f a b = some ((a - b) % 65536) := by
  unfold slot_Elapsed.f
  rw [diff_eq]
  rfl
theorem relapsed_eq (a b : Int) : r22_Elapsed.f a b = some ((a - b) % 65536) := by
  unfold r22_Elapsed.f
  rw [ref_diff_eq]
  rfl
end Go.Proofs.Ythmnlopmocjpaaa.Facts
namespace Go.Proofs.Ythmnlopmocjpaaa.Facts
open Go.RowKit Go.Proofs.Ythmnlopmocjpaaa.Gn Go.Proofs.YthmnlopmocjpaaaW.PrintWords Go.Proofs.YthmnlopmocjpaaaW.PrintLast
set_option linter.unusedVariables false
section
variable (c0 c1 c2 c3 c4 c5 c6 c7 c8 c9 : Int) (l : List Int)
def nowV (e : Int) : Int := if plainE c0 c1 c2 c3 c4 c5 c6 c7 c8 c9 l = 0 then slotV c6 c7 l.length e else -1
theorem now_eq (a b : Int) (k : Nat) (hk : 9 ≤ k) : slot_Now.f k c0 c1 c2 c3 c4 c5 c6 c7 c8 c9 l a b = some (nowV c0 c1 c2 c3 c4 c5 c6 c7 c8 c9 l ((a - b) % 65536)) := by
  unfold slot_Now.f nowV
  rw [elapsed_eq, Option.bind_some, slot_eq _ _ _ _ _ _ _ _ _ _ _ _ (by omega) k hk]
  rfl
theorem rnow_eq (a b : Int) (k : Nat) (hk : 740 ≤ k) : r22_Now.f k c0 c1 c2 c3 c4 c5 c6 c7 c8 c9 l a b = some (nowV c0 c1 c2 c3 c4 c5 c6 c7 c8 c9 l ((a - b) % 65536)) := by
  unfold r22_Now.f nowV
  rw [relapsed_eq, Option.bind_some, rslot_eq _ _ _ _ _ _ _ _ _ _ _ _ k hk]
  rfl
end
end Go.Proofs.Ythmnlopmocjpaaa.Facts
