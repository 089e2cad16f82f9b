import Derived.Test.YtjfcedhjmmnofaaZNumberTurnsGn22
import Derived.Test.YtjfcedhjmmnofaaZNumberTurnsGn23
import Derived.Test.YtjfcedhjmmnofaaZNumberTurnsGn24
import Derived.Test.YtjfcedhjmmnofaaZNumberTurnsGn0
import Derived.Test.YtjfcedhjmmnofaaZNumberTurnsGn1
import Derived.Test.YtjfcedhjmmnofaaZNumberTurnsGn5
import Derived.Test.YtjfcedhjmmnofaaZNumberTurnsRingFacts0
import Derived.Test.YtjfcedhjmmnofaaZNumberTurnsCommon
import Derived.Test.YtjfcedhjmmnofaaZNumberTurnsConfFacts
import Derived.Test.YtjfcedhjmmnofaaZNumberTurnsBoundFacts
namespace Go.Proofs.Ytjfcedhjmmnofaa.Facts
open Go.RowKit Go.Proofs.Ytjfcedhjmmnofaa.Gn Go.Proofs.YtjfcedhjmmnofaaW.PrintWords Go.Proofs.YtjfcedhjmmnofaaW.PrintLast
set_option linter.unusedVariables false
theorem mod_eq (a m : Int) (hm : 1 ≤ m ∧ m ≤ 1000) : num_Mod.f a m = some (a % m) := by
  unfold num_Mod.f
  rw [if_neg (by omega), if_neg (by omega), ← tmod_pos a m hm]
  split <;> rfl
theorem emod_bd (a m : Int) (hm : 1 ≤ m) : 0 ≤ a % m ∧ a % m < m := ⟨Int.emod_nonneg a (by omega), Int.emod_lt_of_pos a (by omega)⟩
def nextV (m n : Int) : Int := (n % m + 1) % m
theorem behind_eq (m n : Int) (hm : 1 ≤ m ∧ m ≤ 1000) : behindF m n = some (nextV m n) := by
  have h := emod_bd n m hm.1
  unfold behindF nextV
  rw [mod_eq _ _ hm, Option.bind_some, w64 (by omega), mod_eq _ _ hm]
/-- A number of bits. -/
def bitV (s : ByteArray) (j : Nat) : Int := if bt s (j : Int) = 49 then 1 else 0
def numV (s : ByteArray) : Nat → Int
  | 0 => 0
  | j + 1 => numV s j + 2 ^ j * bitV s j
def num8 (s : ByteArray) : Nat := min s.size 8
theorem bitV_bd (s : ByteArray) (j : Nat) : 0 ≤ bitV s j ∧ bitV s j ≤ 1 := by unfold bitV; split <;> omega
theorem numV_bd (s : ByteArray) : ∀ j, 0 ≤ numV s j ∧ numV s j < 2 ^ j
  | 0 => by simp [numV]
  | j + 1 => by
    have h := numV_bd s j
    have hb := bitV_bd s j
    have h2 : (0 : Int) < 2 ^ j := Int.pow_pos (by omega)
    have e : (2 : Int) ^ (j + 1) = 2 ^ j + 2 ^ j := by rw [Int.pow_succ]; omega
    have : bitV s j = 0 ∨ bitV s j = 1 := by omega
    rw [numV]
    rcases this with e1 | e1 <;> rw [e1] <;> omega
theorem numV_256 (s : ByteArray) {j : Nat} (hj : j ≤ 8) : 0 ≤ numV s j ∧ numV s j < 256 := by
  have h := numV_bd s j
  have : (2 : Int) ^ j ≤ 2 ^ 8 := by
    have := Nat.pow_le_pow_right (n := 2) (by omega) hj
    exact_mod_cast this
  omega
theorem or_bit : ∀ j : Fin 8, ∀ x : Fin 128, x.1 < 2 ^ j.1 → Go.bits .or .i64 (x.1 : Int) (shl .i64 1 (j.1 : Int)) = (x.1 : Int) + 2 ^ j.1 := by decide +kernel
theorem or_none : ∀ j : Fin 8, ∀ x : Fin 256, Go.bits .or .i64 (x.1 : Int) (shl .i64 0 (j.1 : Int)) = (x.1 : Int) := by decide +kernel
theorem or_step (s : ByteArray) (j : Nat) (hj : j < 8) : Go.bits .or .i64 (numV s j) (shl .i64 (bitV s j) (j : Int)) = numV s (j + 1) := by
  have h := numV_bd s j
  have h8 := numV_256 s (j := j) (by omega)
  obtain ⟨n, hn⟩ := Int.eq_ofNat_of_zero_le h.1
  rw [numV]
  have hb := bitV_bd s j
  have : bitV s j = 0 ∨ bitV s j = 1 := by omega
  rcases this with e | e
  · rw [e, hn, or_none ⟨j, hj⟩ ⟨n, by omega⟩]; simp
  · have hp : (2 : Int) ^ j ≤ 2 ^ 7 := by
      have := Nat.pow_le_pow_right (n := 2) (by omega) (show j ≤ 7 by omega)
      exact_mod_cast this
    rw [e, hn, or_bit ⟨j, hj⟩ ⟨n, by omega⟩ (by
      have h3 := h.2
      rw [hn] at h3
      exact_mod_cast h3)]
    simp
theorem vset_eq (s : ByteArray) (j : Nat) : vec_set.f (bt s (j : Int)) = some (bitV s j) := by
  unfold vec_set.f bitV
  split <;> rfl
theorem vnum_l0 (s : ByteArray) : ∀ (d k j : Nat), j + d = num8 s → d + 1 ≤ k → vec_Number.l0 k s (numV s j) (num8 s : Int) (j : Int) = some (numV s (num8 s))
  | 0, k, j, h, hk => by
    obtain ⟨k, rfl, _⟩ := peel hk
    rw [vec_Number.l0, if_neg (by omega), show j = num8 s from by omega]
  | d + 1, k, j, h, hk => by
    obtain ⟨k, rfl, hk'⟩ := peel hk
    have h8 : num8 s ≤ 8 := Nat.min_le_right _ _
    have hs : num8 s ≤ s.size := Nat.min_le_left _ _
    rw [vec_Number.l0, if_pos (by omega), if_pos (by omega), if_pos (by omega), vset_eq, Option.bind_some, or_step s j (by omega), w64_step (by omega), vnum_l0 s d k (j + 1) (by omega) hk']
theorem vnum_eq (s : ByteArray) (k : Nat) (hk : 9 ≤ k) : vec_Number.f k s = some (numV s (num8 s)) := by
  have h8 : num8 s ≤ 8 := Nat.min_le_right _ _
  have e : mn (s.size : Int) 8 = (num8 s : Int) := by unfold mn num8; split <;> omega
  unfold vec_Number.f
  rw [e]
  exact vnum_l0 s (num8 s) k 0 (by omega) (by omega)
section
variable (c0 c1 c2 c3 c4 c5 c6 c7 c8 c9 : Int) (l : List Int)
def nextN (own : Int) (agreed : ByteArray) : Int := nextV c8 (if agreed.toList = [] then own else numV agreed (num8 agreed))
theorem next_eq (own : Int) (agreed : ByteArray) (k : Nat) (hk : 9 ≤ k) : number_Next.f k c0 c1 c2 c3 c4 c5 c6 c7 c8 c9 l own agreed = some (if plainE c0 c1 c2 c3 c4 c5 c6 c7 c8 c9 l = 0 then nextN c8 own agreed else 0) := by
  unfold number_Next.f
  rw [plain_eq k (by omega), Option.bind_some]
  by_cases hp : plainE c0 c1 c2 c3 c4 c5 c6 c7 c8 c9 l = 0
  · have hm := (plain_iff.1 hp).m
    rw [if_pos hp, if_pos hp]
    unfold nextN
    by_cases ha : agreed.toList = []
    · rw [if_pos ha, if_pos ha, behind_eq _ _ (by omega)]
    · rw [if_neg ha, if_neg ha, vnum_eq _ k hk, Option.bind_some, behind_eq _ _ (by omega)]
  · rw [if_neg hp, if_neg hp]
def apartV (a b : Int) : Int := (b % c8 - a % c8) % c8
theorem apart_eq (a b : Int) (k : Nat) (hk : 9 ≤ k) : number_Apart.f k c0 c1 c2 c3 c4 c5 c6 c7 c8 c9 l a b = some (if plainE c0 c1 c2 c3 c4 c5 c6 c7 c8 c9 l = 0 then apartV c8 a b else 0) := by
  unfold number_Apart.f
  rw [plain_eq k (by omega), Option.bind_some]
  by_cases hp : plainE c0 c1 c2 c3 c4 c5 c6 c7 c8 c9 l = 0
  · have hm := (plain_iff.1 hp).m
    have := emod_bd a c8 (by omega)
    have := emod_bd b c8 (by omega)
    rw [if_pos hp, if_pos hp, mod_eq _ _ (by omega), Option.bind_some, mod_eq _ _ (by omega), Option.bind_some, w64 (by omega), mod_eq _ _ (by omega)]
    rfl
  · rw [if_neg hp, if_neg hp]
/-- So many numbers from one on. -/
def rowV (m first : Int) (n : Nat) : List Int := (List.range n).map fun (i : Nat) => (first + (i : Int)) % m
theorem next_step (m first : Int) (i : Nat) : nextV m ((first + (i : Int)) % m) = (first + ((i + 1 : Nat) : Int)) % m := by
  unfold nextV
  rw [Int.emod_emod, Int.emod_add_emod]
  congr 1
  omega
theorem rowL_eq (m first : Int) (hm : 1 ≤ m ∧ m ≤ 1000) : ∀ (d j : Nat), rowL m d ((first + (j : Int)) % m) (rowV m first j) = some (rowV m first (j + d))
  | 0, j => rfl
  | d + 1, j => by
    rw [rowL, behind_eq _ _ hm, Option.bind_some, next_step, show rowV m first j ++ [(first + (j : Int)) % m] = rowV m first (j + 1) from by unfold rowV; rw [List.range_succ, List.map_append]; rfl, rowL_eq m first hm d (j + 1)]
    congr 2
    omega
def rowN (n : Int) : Nat := (if n < 0 then 0 else if n > 2000 then 2000 else n).toNat
theorem clamp2_eq (k : Nat) (hk : 1 ≤ k) (a : Int) : num_Clamp.f k a 0 2000 = some (rowN a : Int) := by
  obtain ⟨k, rfl, _⟩ := peel hk
  unfold num_Clamp.f rowN
  by_cases h : a < 0
  · rw [if_pos h, if_pos h, decide_eq_true h, num_Clamp.j0, if_pos rfl]; rfl
  · rw [if_neg h, if_neg h, num_Clamp.j0, if_neg (by decide)]
    by_cases h1 : a > 2000
    · rw [if_pos h1, if_pos h1]; rfl
    · rw [if_neg h1, if_neg h1]
      exact congrArg some (by omega)
theorem row_eq (first n : Int) (k : Nat) (hk : 9 ≤ k) : number_Row.f k c0 c1 c2 c3 c4 c5 c6 c7 c8 c9 l first n = some (if plainE c0 c1 c2 c3 c4 c5 c6 c7 c8 c9 l = 0 then rowV c8 first (rowN n) else []) := by
  unfold number_Row.f
  rw [plain_eq k (by omega), Option.bind_some]
  by_cases hp : plainE c0 c1 c2 c3 c4 c5 c6 c7 c8 c9 l = 0
  · have hm := (plain_iff.1 hp).m
    have hr : rowN n ≤ 2000 := by unfold rowN; split <;> (try split) <;> omega
    have h := rowL_eq c8 first (by omega) (rowN n) 0
    rw [Nat.zero_add, show rowV c8 first 0 = [] from rfl, show first + ((0 : Nat) : Int) = first from by omega] at h
    rw [if_pos hp, if_pos hp, mod_eq _ _ (by omega), Option.bind_some, clamp2_eq k (by omega), Option.bind_some, if_pos (by omega), Int.toNat_natCast, h]
  · rw [if_neg hp, if_neg hp]
theorem no_bytes : (⟨#[]⟩ : ByteArray).toList = [] := by decide +kernel
end
theorem known20 (k : Nat) (hk : 200 ≤ k) : bellwetherlaw20_known.f k = some true := leo_up bellwetherlaw20_known.mono hk (by decide +kernel)
end Go.Proofs.Ytjfcedhjmmnofaa.Facts
