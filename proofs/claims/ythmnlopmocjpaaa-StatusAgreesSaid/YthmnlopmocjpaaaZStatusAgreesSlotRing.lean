import Derived.Test.YthmnlopmocjpaaaZStatusAgreesGn6
import Derived.Test.YthmnlopmocjpaaaZStatusAgreesGn8
import Derived.Test.YthmnlopmocjpaaaZStatusAgreesGn23
import Derived.Test.YthmnlopmocjpaaaZStatusAgreesGn0
import Derived.Test.YthmnlopmocjpaaaZStatusAgreesGn2
import Derived.Test.YthmnlopmocjpaaaZStatusAgreesGn22
import Derived.Test.YthmnlopmocjpaaaZStatusAgreesGn37
import Derived.Test.YthmnlopmocjpaaaZStatusAgreesRingFacts0
import Derived.Test.YthmnlopmocjpaaaZStatusAgreesGn40
import Derived.Test.YthmnlopmocjpaaaZStatusAgreesConfFacts
import Derived.Test.YthmnlopmocjpaaaZStatusAgreesBoundFacts
import Derived.Test.YthmnlopmocjpaaaZStatusAgreesBoundRef
import Derived.Test.YthmnlopmocjpaaaZStatusAgreesSchedFacts
namespace Go.Proofs.Ythmnlopmocjpaaa.Facts
open Go.RowKit Go.Proofs.Ythmnlopmocjpaaa.Gn Go.Proofs.YthmnlopmocjpaaaW.PrintWords Go.Proofs.YthmnlopmocjpaaaW.PrintLast
theorem tmod_emod (a : Int) : (if Int.tmod a 65536 < 0 then wrap64 (Int.tmod a 65536 + 65536) else Int.tmod a 65536) = a % 65536 := by
  have h := Int.tmod_eq_emod (a := a) (b := 65536)
  unfold wrap64
  split <;> split at h <;> omega
theorem mod_wrap (a : Int) : num_Mod.f a 65536 = some (a % 65536) := by
  unfold num_Mod.f
  rw [if_neg (by decide), if_neg (by decide), ← tmod_emod a]
  split <;> rfl
theorem put_put (a : Int) : ring_put.f a = some (a % 65536) := by simp [ring_put.f, mod_wrap]
theorem diff_eq (a b : Int) : ring_Diff.f a b = some ((a - b) % 65536) := by
  simp only [ring_Diff.f, ring_clock_from.f, put_put, Option.bind_some]
  rw [w64 (by omega)]
  congr 1
  omega
theorem ref_mod_wrap (a : Int) : r01_Mod.f a 65536 = some (a % 65536) := by
  unfold r01_Mod.f
  rw [if_neg (by decide), if_neg (by decide), ← tmod_emod a]
  split <;> rfl
theorem ref_put_eq (a : Int) : r05_Put.f a = some (a % 65536) := by simp [r05_Put.f, ref_mod_wrap]
theorem ref_add_eq (a b : Int) : r05_Add.f a b = some ((a + b) % 65536) := by
  simp only [r05_Add.f, ref_put_eq, Option.bind_some]
  rw [w64 (by omega)]
  congr 1
  omega
theorem elapsed_eq (a b : Int) : slot_Elapsed.f a b = some ((a - b) % 65536) := by
  unfold slot_Elapsed.f
  rw [diff_eq]
  rfl
end Go.Proofs.Ythmnlopmocjpaaa.Facts
namespace Go.Proofs.Ythmnlopmocjpaaa.Facts
open Go.RowKit Go.Proofs.Ythmnlopmocjpaaa.Gn Go.Proofs.YthmnlopmocjpaaaW.PrintWords Go.Proofs.YthmnlopmocjpaaaW.PrintLast
set_option linter.unusedVariables false
section
variable (c0 c1 c2 c3 c4 c5 c6 c7 c8 c9 : Int) (l : List Int)
def nominalV (t : Int) : Int := if (0 ≤ t ∧ t ≤ 2000) ∧ plainE c0 c1 c2 c3 c4 c5 c6 c7 c8 c9 l = 0 then slotV c6 c7 l.length (t * c4) else -1
theorem rnominal_eq (t : Int) (k : Nat) (hk : 740 ≤ k) : r22_Nominal.f k c0 c1 c2 c3 c4 c5 c6 c7 c8 c9 l t = some (nominalV c0 c1 c2 c3 c4 c5 c6 c7 c8 c9 l t) := by
  unfold r22_Nominal.f nominalV
  by_cases c : t < 0
  · rw [if_pos c, if_neg (fun x => by omega)]
  · rw [if_neg c]
    by_cases cc : t > 2000
    · rw [if_pos cc, if_neg (fun x => by omega)]
    · rw [if_neg cc, rslot_eq _ _ _ _ _ _ _ _ _ _ _ _ k hk, Option.bind_some]
      by_cases hp : plainE c0 c1 c2 c3 c4 c5 c6 c7 c8 c9 l = 0
      · have h := plain_iff.1 hp
        have hr := h.r
        have := mul_bd (x := t) (y := c4) (a := 2000) (b := 64) ⟨by omega, by omega⟩ ⟨by omega, by omega⟩
        rw [if_pos hp, if_pos ⟨⟨by omega, by omega⟩, hp⟩, w64 (by omega)]
      · rw [if_neg hp, if_neg (fun x => hp x.2)]
def nowV (e : Int) : Int := if plainE c0 c1 c2 c3 c4 c5 c6 c7 c8 c9 l = 0 then slotV c6 c7 l.length e else -1
theorem now_eq (a b : Int) (k : Nat) (hk : 9 ≤ k) : slot_Now.f k c0 c1 c2 c3 c4 c5 c6 c7 c8 c9 l a b = some (nowV c0 c1 c2 c3 c4 c5 c6 c7 c8 c9 l ((a - b) % 65536)) := by
  unfold slot_Now.f nowV
  rw [elapsed_eq, Option.bind_some, slot_eq _ _ _ _ _ _ _ _ _ _ _ _ (by omega) k hk]
  rfl
theorem tick_bd (h : Plain c0 c1 c2 c3 c4 c5 c6 c7 c8 c9 l) {t : Int} (ht : 0 ≤ t ∧ t ≤ 2000) : (0 ≤ t * (c4 - c5) ∧ t * (c4 - c5) ≤ 128000) ∧ (0 ≤ t * (c4 + c5) ∧ t * (c4 + c5) ≤ 256000) ∧ (0 ≤ t * c4 ∧ t * c4 ≤ 128000) ∧ (0 ≤ t * c5 ∧ t * c5 ≤ 128000) ∧ t * (c4 - c5) = t * c4 - t * c5 ∧ t * (c4 + c5) = t * c4 + t * c5 := by
  have hr := h.r
  have hd := h.dr
  have a := mul_bd (x := t) (y := c4 - c5) (a := 2000) (b := 64) ht ⟨by omega, by omega⟩
  have b := mul_bd (x := t) (y := c4 + c5) (a := 2000) (b := 128) ht ⟨by omega, by omega⟩
  have c := mul_bd (x := t) (y := c4) (a := 2000) (b := 64) ht ⟨by omega, by omega⟩
  have d := mul_bd (x := t) (y := c5) (a := 2000) (b := 64) ht ⟨by omega, by omega⟩
  exact ⟨by omega, by omega, by omega, by omega, Int.mul_sub .., Int.mul_add ..⟩
end
end Go.Proofs.Ythmnlopmocjpaaa.Facts
