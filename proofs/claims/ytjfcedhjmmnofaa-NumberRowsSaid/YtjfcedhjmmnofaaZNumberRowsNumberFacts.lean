import Derived.Test.YtjfcedhjmmnofaaZNumberRowsGn22
import Derived.Test.YtjfcedhjmmnofaaZNumberRowsGn23
import Derived.Test.YtjfcedhjmmnofaaZNumberRowsGn24
import Derived.Test.YtjfcedhjmmnofaaZNumberRowsGn25
import Derived.Test.YtjfcedhjmmnofaaZNumberRowsGn26
import Derived.Test.YtjfcedhjmmnofaaZNumberRowsGn27
import Derived.Test.YtjfcedhjmmnofaaZNumberRowsRingFacts0
import Derived.Test.YtjfcedhjmmnofaaZNumberRowsCommon
import Derived.Test.YtjfcedhjmmnofaaZNumberRowsConfFacts
import Derived.Test.YtjfcedhjmmnofaaZNumberRowsBoundFacts
namespace Go.Proofs.Ytjfcedhjmmnofaa.Facts
open Go.RowKit Go.Proofs.Ytjfcedhjmmnofaa.Gn Go.Proofs.YtjfcedhjmmnofaaW.PrintWords Go.Proofs.YtjfcedhjmmnofaaW.PrintLast
set_option linter.unusedVariables false
theorem mod_eq (a m : Int) (hm : 1 ≤ m ∧ m ≤ 1000) : num_Mod.f a m = some (a % m) := by
  unfold num_Mod.f
  rw [if_neg (by omega), if_neg (by omega), ← tmod_pos a m hm]
  split <;> rfl
theorem rmod_eq (a m : Int) (hm : 1 ≤ m ∧ m ≤ 1000) : bellwetherref01_Mod.f a m = some (a % m) := by
  unfold bellwetherref01_Mod.f
  rw [if_neg (by omega), if_neg (by omega), ← tmod_pos a m hm]
  split <;> rfl
theorem emod_bd (a m : Int) (hm : 1 ≤ m) : 0 ≤ a % m ∧ a % m < m := ⟨Int.emod_nonneg a (by omega), Int.emod_lt_of_pos a (by omega)⟩
def nextV (m n : Int) : Int := (n % m + 1) % m
theorem behind_eq (m n : Int) (hm : 1 ≤ m ∧ m ≤ 1000) : behindF m n = some (nextV m n) := by
  have h := emod_bd n m hm.1
  unfold behindF nextV
  rw [mod_eq _ _ hm, Option.bind_some, w64 (by omega), mod_eq _ _ hm]
/-- A number of bits. -/
def bitV (s : ByteArray) (j : Nat) : Int := if bt s (j : Int) = 49 then 1 else 0
def numV (s : ByteArray) : Nat → Int
  | 0 => 0
  | j + 1 => numV s j + 2 ^ j * bitV s j
def num8 (s : ByteArray) : Nat := min s.size 8
theorem bitV_bd (s : ByteArray) (j : Nat) : 0 ≤ bitV s j ∧ bitV s j ≤ 1 := by unfold bitV; split <;> omega
theorem numV_bd (s : ByteArray) : ∀ j, 0 ≤ numV s j ∧ numV s j < 2 ^ j
  | 0 => by simp [numV]
  | j + 1 => by
    have h := numV_bd s j
    have hb := bitV_bd s j
    have h2 : (0 : Int) < 2 ^ j := Int.pow_pos (by omega)
    have e : (2 : Int) ^ (j + 1) = 2 ^ j + 2 ^ j := by rw [Int.pow_succ]; omega
    have : bitV s j = 0 ∨ bitV s j = 1 := by omega
    rw [numV]
    rcases this with e1 | e1 <;> rw [e1] <;> omega
theorem numV_256 (s : ByteArray) {j : Nat} (hj : j ≤ 8) : 0 ≤ numV s j ∧ numV s j < 256 := by
  have h := numV_bd s j
  have : (2 : Int) ^ j ≤ 2 ^ 8 := by
    have := Nat.pow_le_pow_right (n := 2) (by omega) hj
    exact_mod_cast this
  omega
theorem rbit_eq (s : ByteArray) (j : Nat) : bellwetherref16_bit.f (bt s (j : Int)) = some (bitV s j) := by
  unfold bellwetherref16_bit.f bitV
  split <;> rfl
theorem rnum_l0 (s : ByteArray) : ∀ (d k j : Nat), j + d = num8 s → d + 1 ≤ k → bellwetherref16_Number.l0 k s (numV s j) (2 ^ j) (j : Int) = some (numV s (num8 s))
  | 0, k, j, h, hk => by
    obtain ⟨k, rfl, _⟩ := peel hk
    rw [bellwetherref16_Number.l0, show j = num8 s from by omega]
    by_cases c : ((num8 s : Nat) : Int) < 8
    · rw [if_pos c, if_neg (by unfold num8 at *; omega)]
    · rw [if_neg c]
  | d + 1, k, j, h, hk => by
    obtain ⟨k, rfl, hk'⟩ := peel hk
    have h8 : num8 s ≤ 8 := Nat.min_le_right _ _
    have hs : num8 s ≤ s.size := Nat.min_le_left _ _
    have hp : (2 : Int) ^ j ≤ 2 ^ 7 := by
      have := Nat.pow_le_pow_right (n := 2) (by omega) (show j ≤ 7 by omega)
      exact_mod_cast this
    have hp0 : (0 : Int) < 2 ^ j := Int.pow_pos (by omega)
    have hb := bitV_bd s j
    have hn := numV_256 s (j := j) (by omega)
    have hm : (2 : Int) ^ j * bitV s j = 0 ∨ (2 : Int) ^ j * bitV s j = 2 ^ j := by
      have : bitV s j = 0 ∨ bitV s j = 1 := by omega
      rcases this with e | e <;> rw [e] <;> simp
    have ih := rnum_l0 s d k (j + 1) (by omega) hk'
    rw [bellwetherref16_Number.l0, if_pos (by omega), if_pos (by omega), if_pos (by omega), rbit_eq, Option.bind_some, w64 (a := 2 ^ j * bitV s j) (by omega), w64 (a := numV s j + 2 ^ j * bitV s j) (by omega), w64 (a := 2 * 2 ^ j) (by omega), w64_step (by omega), show (2 : Int) * 2 ^ j = 2 ^ (j + 1) from by rw [Int.pow_succ]; omega]
    exact ih
theorem rnum_eq (s : ByteArray) (k : Nat) (hk : 9 ≤ k) : bellwetherref16_Number.f k s = some (numV s (num8 s)) := by
  have h8 : num8 s ≤ 8 := Nat.min_le_right _ _
  exact rnum_l0 s (num8 s) k 0 (by omega) (by omega)
theorem num_bd (s : ByteArray) : 0 ≤ numV s (num8 s) ∧ numV s (num8 s) < 256 := numV_256 s (Nat.min_le_right _ _)
section
variable (c0 c1 c2 c3 c4 c5 c6 c7 c8 c9 : Int) (l : List Int)
def nextN (own : Int) (agreed : ByteArray) : Int := nextV c8 (if agreed.toList = [] then own else numV agreed (num8 agreed))
theorem rnext_eq (own : Int) (agreed : ByteArray) (k : Nat) (hk : 700 ≤ k) : bellwetherref20_Next.f k c0 c1 c2 c3 c4 c5 c6 c7 c8 c9 l own agreed = some (if plainE c0 c1 c2 c3 c4 c5 c6 c7 c8 c9 l = 0 then nextN c8 own agreed else 0) := by
  unfold bellwetherref20_Next.f
  rw [ref_plain_eq _ _ _ _ _ _ _ _ _ _ _ k hk, Option.bind_some]
  by_cases hp : plainE c0 c1 c2 c3 c4 c5 c6 c7 c8 c9 l = 0
  · have hm := (plain_iff.1 hp).m
    rw [if_pos hp, if_pos hp]
    unfold nextN nextV
    by_cases ha : agreed.toList = []
    · have := emod_bd own c8 (by omega)
      rw [if_pos ha, if_pos ha, rmod_eq _ _ (by omega), Option.bind_some, w64 (by omega), rmod_eq _ _ (by omega)]
      rfl
    · have := num_bd agreed
      rw [if_neg ha, if_neg ha, rnum_eq _ k (by omega), Option.bind_some, w64 (by omega), rmod_eq _ _ (by omega), Option.bind_some, Int.emod_add_emod]
  · rw [if_neg hp, if_neg hp]
def apartV (a b : Int) : Int := (b % c8 - a % c8) % c8
theorem apart_eq (a b : Int) (k : Nat) (hk : 9 ≤ k) : number_Apart.f k c0 c1 c2 c3 c4 c5 c6 c7 c8 c9 l a b = some (if plainE c0 c1 c2 c3 c4 c5 c6 c7 c8 c9 l = 0 then apartV c8 a b else 0) := by
  unfold number_Apart.f
  rw [plain_eq k (by omega), Option.bind_some]
  by_cases hp : plainE c0 c1 c2 c3 c4 c5 c6 c7 c8 c9 l = 0
  · have hm := (plain_iff.1 hp).m
    have := emod_bd a c8 (by omega)
    have := emod_bd b c8 (by omega)
    rw [if_pos hp, if_pos hp, mod_eq _ _ (by omega), Option.bind_some, mod_eq _ _ (by omega), Option.bind_some, w64 (by omega), mod_eq _ _ (by omega)]
    rfl
  · rw [if_neg hp, if_neg hp]
theorem rapart_eq (a b : Int) (k : Nat) (hk : 700 ≤ k) : bellwetherref20_Apart.f k c0 c1 c2 c3 c4 c5 c6 c7 c8 c9 l a b = some (if plainE c0 c1 c2 c3 c4 c5 c6 c7 c8 c9 l = 0 then apartV c8 a b else 0) := by
  unfold bellwetherref20_Apart.f
  rw [ref_plain_eq _ _ _ _ _ _ _ _ _ _ _ k hk, Option.bind_some]
  by_cases hp : plainE c0 c1 c2 c3 c4 c5 c6 c7 c8 c9 l = 0
  · have hm := (plain_iff.1 hp).m
    have := emod_bd a c8 (by omega)
    have := emod_bd b c8 (by omega)
    rw [if_pos hp, if_pos hp, rmod_eq _ _ (by omega), Option.bind_some, rmod_eq _ _ (by omega), Option.bind_some, w64 (by omega), rmod_eq _ _ (by omega)]
    rfl
  · rw [if_neg hp, if_neg hp]
/-- So many numbers from one on. -/
def rowV (m first : Int) (n : Nat) : List Int := (List.range n).map fun (i : Nat) => (first + (i : Int)) % m
theorem next_step (m first : Int) (i : Nat) : nextV m ((first + (i : Int)) % m) = (first + ((i + 1 : Nat) : Int)) % m := by
  unfold nextV
  rw [Int.emod_emod, Int.emod_add_emod]
  congr 1
  omega
theorem rowL_eq (m first : Int) (hm : 1 ≤ m ∧ m ≤ 1000) : ∀ (d j : Nat), rowL m d ((first + (j : Int)) % m) (rowV m first j) = some (rowV m first (j + d))
  | 0, j => rfl
  | d + 1, j => by
    rw [rowL, behind_eq _ _ hm, Option.bind_some, next_step, show rowV m first j ++ [(first + (j : Int)) % m] = rowV m first (j + 1) from by unfold rowV; rw [List.range_succ, List.map_append]; rfl, rowL_eq m first hm d (j + 1)]
    congr 2
    omega
def rowN (n : Int) : Nat := (if n < 0 then 0 else if n > 2000 then 2000 else n).toNat
theorem clamp2_eq (k : Nat) (hk : 1 ≤ k) (a : Int) : num_Clamp.f k a 0 2000 = some (rowN a : Int) := by
  obtain ⟨k, rfl, _⟩ := peel hk
  unfold num_Clamp.f rowN
  by_cases h : a < 0
  · rw [if_pos h, if_pos h, decide_eq_true h, num_Clamp.j0, if_pos rfl]; rfl
  · rw [if_neg h, if_neg h, num_Clamp.j0, if_neg (by decide)]
    by_cases h1 : a > 2000
    · rw [if_pos h1, if_pos h1]; rfl
    · rw [if_neg h1, if_neg h1]
      exact congrArg some (by omega)
theorem row_eq (first n : Int) (k : Nat) (hk : 9 ≤ k) : number_Row.f k c0 c1 c2 c3 c4 c5 c6 c7 c8 c9 l first n = some (if plainE c0 c1 c2 c3 c4 c5 c6 c7 c8 c9 l = 0 then rowV c8 first (rowN n) else []) := by
  unfold number_Row.f
  rw [plain_eq k (by omega), Option.bind_some]
  by_cases hp : plainE c0 c1 c2 c3 c4 c5 c6 c7 c8 c9 l = 0
  · have hm := (plain_iff.1 hp).m
    have hr : rowN n ≤ 2000 := by unfold rowN; split <;> (try split) <;> omega
    have h := rowL_eq c8 first (by omega) (rowN n) 0
    rw [Nat.zero_add, show rowV c8 first 0 = [] from rfl, show first + ((0 : Nat) : Int) = first from by omega] at h
    rw [if_pos hp, if_pos hp, mod_eq _ _ (by omega), Option.bind_some, clamp2_eq k (by omega), Option.bind_some, if_pos (by omega), Int.toNat_natCast, h]
  · rw [if_neg hp, if_neg hp]
theorem no_bytes : (⟨#[]⟩ : ByteArray).toList = [] := by decide +kernel
theorem rrow_l0 (h : Plain c0 c1 c2 c3 c4 c5 c6 c7 c8 c9 l) (first n : Int) : ∀ (d k j : Nat), j + d = rowN n → d + 701 ≤ k → bellwetherref20_Row.l0 k n (rowV c8 first j) ((first + (j : Int)) % c8) (j : Int) c0 c1 c2 c3 c4 c5 c6 c7 c8 c9 l = some (rowV c8 first (rowN n))
  | 0, k, j, hj, hk => by
    obtain ⟨k, rfl, _⟩ := peel (m := 700) (by omega)
    rw [bellwetherref20_Row.l0]
    by_cases c : (j : Int) < n
    · rw [if_pos c, if_neg (by unfold rowN at *; split at hj <;> (try split at hj) <;> omega), show j = rowN n from by omega]
    · rw [if_neg c, show j = rowN n from by omega]
  | d + 1, k, j, hj, hk => by
    obtain ⟨k, rfl, hk'⟩ := peel (m := d + 701) (by omega)
    have hr : rowN n ≤ 2000 := by unfold rowN; split <;> (try split) <;> omega
    have hl : (rowV c8 first j).length = j := by simp [rowV]
    have ih := rrow_l0 h first n d k (j + 1) (by omega) hk'
    rw [show rowV c8 first (j + 1) = rowV c8 first j ++ [(first + (j : Int)) % c8] from by unfold rowV; rw [List.range_succ, List.map_append]; rfl] at ih
    rw [bellwetherref20_Row.l0, if_pos (by unfold rowN at *; split at hj <;> (try split at hj) <;> omega), if_pos (by omega), if_pos (by rw [hl]; omega), rnext_eq _ _ _ _ _ _ _ _ _ _ _ _ _ k (by omega), Option.bind_some, if_pos (plain_iff.2 h), w64_step (by omega)]
    unfold nextN
    rw [if_pos no_bytes, next_step]
    exact ih
theorem rrow_eq (first n : Int) (k : Nat) (hk : 3000 ≤ k) : bellwetherref20_Row.f k c0 c1 c2 c3 c4 c5 c6 c7 c8 c9 l first n = some (if plainE c0 c1 c2 c3 c4 c5 c6 c7 c8 c9 l = 0 then rowV c8 first (rowN n) else []) := by
  unfold bellwetherref20_Row.f
  rw [ref_plain_eq _ _ _ _ _ _ _ _ _ _ _ k (by omega), Option.bind_some]
  by_cases hp : plainE c0 c1 c2 c3 c4 c5 c6 c7 c8 c9 l = 0
  · have h := plain_iff.1 hp
    have hm := h.m
    have hr : rowN n ≤ 2000 := by unfold rowN; split <;> (try split) <;> omega
    have e := rrow_l0 c0 c1 c2 c3 c4 c5 c6 c7 c8 c9 l h first n (rowN n) k 0 (by omega) (by omega)
    rw [show rowV c8 first 0 = [] from rfl, show first + ((0 : Nat) : Int) = first from by omega] at e
    rw [if_pos hp, if_pos hp, rmod_eq _ _ (by omega), Option.bind_some]
    exact e
  · rw [if_neg hp, if_neg hp]
end
theorem ints_l0 (l : List Int) (hl : l.length ≤ 10000) : ∀ (d k j : Nat), j + d = l.length → d + 1 ≤ k → bellwetherref06_Ints.l0 k l l (j : Int) = some true
  | 0, k, j, h, hk => by
    obtain ⟨k, rfl, _⟩ := peel hk
    rw [bellwetherref06_Ints.l0, if_neg (by omega)]
  | d + 1, k, j, h, hk => by
    obtain ⟨k, rfl, hk'⟩ := peel hk
    rw [bellwetherref06_Ints.l0, if_pos (by omega), if_pos (by omega), if_pos (by omega), if_pos rfl, w64_step (by omega), ints_l0 l hl d k (j + 1) (by omega) hk']
theorem ints_eq (l : List Int) (hl : l.length ≤ 10000) (k : Nat) (hk : l.length + 1 ≤ k) : bellwetherref06_Ints.f k l l = some true := by
  unfold bellwetherref06_Ints.f
  rw [if_pos rfl]
  exact ints_l0 l hl l.length k 0 (by omega) hk
theorem known20 (k : Nat) (hk : 200 ≤ k) : bellwetherlaw20_known.f k = some true := leo_up bellwetherlaw20_known.mono hk (by decide +kernel)
end Go.Proofs.Ytjfcedhjmmnofaa.Facts
