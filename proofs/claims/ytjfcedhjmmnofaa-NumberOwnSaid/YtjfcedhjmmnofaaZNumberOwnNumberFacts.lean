import Derived.Test.YtjfcedhjmmnofaaZNumberOwnGn22
import Derived.Test.YtjfcedhjmmnofaaZNumberOwnGn23
import Derived.Test.YtjfcedhjmmnofaaZNumberOwnGn24
import Derived.Test.YtjfcedhjmmnofaaZNumberOwnGn0
import Derived.Test.YtjfcedhjmmnofaaZNumberOwnGn1
import Derived.Test.YtjfcedhjmmnofaaZNumberOwnGn5
import Derived.Test.YtjfcedhjmmnofaaZNumberOwnRingFacts0
import Derived.Test.YtjfcedhjmmnofaaZNumberOwnCommon
import Derived.Test.YtjfcedhjmmnofaaZNumberOwnConfFacts
import Derived.Test.YtjfcedhjmmnofaaZNumberOwnBoundFacts
namespace Go.Proofs.Ytjfcedhjmmnofaa.Facts
open Go.RowKit Go.Proofs.Ytjfcedhjmmnofaa.Gn Go.Proofs.YtjfcedhjmmnofaaW.PrintWords Go.Proofs.YtjfcedhjmmnofaaW.PrintLast
set_option linter.unusedVariables false
theorem mod_eq (a m : Int) (hm : 1 ≤ m ∧ m ≤ 1000) : num_Mod.f a m = some (a % m) := by
  unfold num_Mod.f
  rw [if_neg (by omega), if_neg (by omega), ← tmod_pos a m hm]
  split <;> rfl
theorem emod_bd (a m : Int) (hm : 1 ≤ m) : 0 ≤ a % m ∧ a % m < m := ⟨Int.emod_nonneg a (by omega), Int.emod_lt_of_pos a (by omega)⟩
def nextV (m n : Int) : Int := (n % m + 1) % m
theorem behind_eq (m n : Int) (hm : 1 ≤ m ∧ m ≤ 1000) : behindF m n = some (nextV m n) := by
  have h := emod_bd n m hm.1
  unfold behindF nextV
  rw [mod_eq _ _ hm, Option.bind_some, w64 (by omega), mod_eq _ _ hm]
/-- A number of bits. -/
def bitV (s : ByteArray) (j : Nat) : Int := if bt s (j : Int) = 49 then 1 else 0
def numV (s : ByteArray) : Nat → Int
  | 0 => 0
  | j + 1 => numV s j + 2 ^ j * bitV s j
def num8 (s : ByteArray) : Nat := min s.size 8
theorem bitV_bd (s : ByteArray) (j : Nat) : 0 ≤ bitV s j ∧ bitV s j ≤ 1 := by unfold bitV; split <;> omega
theorem numV_bd (s : ByteArray) : ∀ j, 0 ≤ numV s j ∧ numV s j < 2 ^ j
  | 0 => by simp [numV]
  | j + 1 => by
    have h := numV_bd s j
    have hb := bitV_bd s j
    have h2 : (0 : Int) < 2 ^ j := Int.pow_pos (by omega)
    have e : (2 : Int) ^ (j + 1) = 2 ^ j + 2 ^ j := by rw [Int.pow_succ]; omega
    have : bitV s j = 0 ∨ bitV s j = 1 := by omega
    rw [numV]
    rcases this with e1 | e1 <;> rw [e1] <;> omega
theorem numV_256 (s : ByteArray) {j : Nat} (hj : j ≤ 8) : 0 ≤ numV s j ∧ numV s j < 256 := by
  have h := numV_bd s j
  have : (2 : Int) ^ j ≤ 2 ^ 8 := by
    have := Nat.pow_le_pow_right (n := 2) (by omega) hj
    exact_mod_cast this
  omega
theorem or_bit : ∀ j : Fin 8, ∀ x : Fin 128, x.1 < 2 ^ j.1 → Go.bits .or .i64 (x.1 : Int) (shl .i64 1 (j.1 : Int)) = (x.1 : Int) + 2 ^ j.1 := by decide +kernel
theorem or_none : ∀ j : Fin 8, ∀ x : Fin 256, Go.bits .or .i64 (x.1 : Int) (shl .i64 0 (j.1 : Int)) = (x.1 : Int) := by decide +kernel
theorem or_step (s : ByteArray) (j : Nat) (hj : j < 8) : Go.bits .or .i64 (numV s j) (shl .i64 (bitV s j) (j : Int)) = numV s (j + 1) := by
  have h := numV_bd s j
  have h8 := numV_256 s (j := j) (by omega)
  obtain ⟨n, hn⟩ := Int.eq_ofNat_of_zero_le h.1
  rw [numV]
  have hb := bitV_bd s j
  have : bitV s j = 0 ∨ bitV s j = 1 := by omega
  rcases this with e | e
  · rw [e, hn, or_none ⟨j, hj⟩ ⟨n, by omega⟩]; simp
  · have hp : (2 : Int) ^ j ≤ 2 ^ 7 := by
      have := Nat.pow_le_pow_right (n := 2) (by omega) (show j ≤ 7 by omega)
      exact_mod_cast this
    rw [e, hn, or_bit ⟨j, hj⟩ ⟨n, by omega⟩ (by
      have h3 := h.2
      rw [hn] at h3
      exact_mod_cast h3)]
    simp
theorem vset_eq (s : ByteArray) (j : Nat) : vec_set.f (bt s (j : Int)) = some (bitV s j) := by
  unfold vec_set.f bitV
  split <;> rfl
theorem vnum_l0 (s : ByteArray) : ∀ (d k j : Nat), j + d = num8 s → d + 1 ≤ k → vec_Number.l0 k s (numV s j) (num8 s : Int) (j : Int) = some (numV s (num8 s))
  | 0, k, j, h, hk => by
    obtain ⟨k, rfl, _⟩ := peel hk
    rw [vec_Number.l0, if_neg (by omega), show j = num8 s from by omega]
  | d + 1, k, j, h, hk => by
    obtain ⟨k, rfl, hk'⟩ := peel hk
    have h8 : num8 s ≤ 8 := Nat.min_le_right _ _
    have hs : num8 s ≤ s.size := Nat.min_le_left _ _
    rw [vec_Number.l0, if_pos (by omega), if_pos (by omega), if_pos (by omega), vset_eq, Option.bind_some, or_step s j (by omega), w64_step (by omega), vnum_l0 s d k (j + 1) (by omega) hk']
theorem vnum_eq (s : ByteArray) (k : Nat) (hk : 9 ≤ k) : vec_Number.f k s = some (numV s (num8 s)) := by
  have h8 : num8 s ≤ 8 := Nat.min_le_right _ _
  have e : mn (s.size : Int) 8 = (num8 s : Int) := by unfold mn num8; split <;> omega
  unfold vec_Number.f
  rw [e]
  exact vnum_l0 s (num8 s) k 0 (by omega) (by omega)
/-- Whether there is a 1 at a place, as a digit. -/
def digI (s : ByteArray) (at_ i : Nat) : Int := if ((at_ + i : Nat) : Int) < s.size ∧ bt s ((at_ + i : Nat) : Int) = 49 then 49 else 48
def digV (s : ByteArray) (at_ n : Nat) : ByteArray := strOfNums ((List.range n).map (digI s at_))
theorem digV_size (s : ByteArray) (a n : Nat) : (digV s a n).size = n := by
  unfold digV
  rw [strOfNums_size]
  simp
theorem members_l0 (s : ByteArray) (n : Nat) (hn : n ≤ 64) : ∀ (d k j : Nat), j + d = n → d + 1 ≤ k → number_Members.l0 k s ((List.range j).map (digI s 0) ++ List.replicate d 0) (n : Int) (j : Int) = some (digV s 0 n)
  | 0, k, j, h, hk => by
    obtain ⟨k, rfl, _⟩ := peel hk
    rw [number_Members.l0, if_neg (by omega), show j = n from by omega]
    simp [digV]
  | d + 1, k, j, h, hk => by
    obtain ⟨k, rfl, hk'⟩ := peel hk
    have hlen : ((List.range j).map (digI s 0)).length = j := by simp
    have e1 : ∀ x : Int, ((List.range j).map (digI s 0) ++ x :: List.replicate d 0).set (j : Int).toNat 48 = (List.range j).map (digI s 0) ++ 48 :: List.replicate d 0 := fun x => set_mid _ x 48 _ _ hlen
    have e2 : ∀ x : Int, ((List.range j).map (digI s 0) ++ x :: List.replicate d 0).set (j : Int).toNat 49 = (List.range j).map (digI s 0) ++ 49 :: List.replicate d 0 := fun x => set_mid _ x 49 _ _ hlen
    have e3 : (List.range (j + 1)).map (digI s 0) ++ List.replicate d 0 = (List.range j).map (digI s 0) ++ digI s 0 j :: List.replicate d 0 := by
      rw [List.range_succ, List.map_append, List.append_assoc]
      rfl
    have ih := members_l0 s n hn d k (j + 1) (by omega) hk'
    rw [e3] at ih
    rw [number_Members.l0, if_pos (by omega), if_pos (by omega), List.replicate_succ, if_pos (by simp; omega), Option.bind_some, e1, e2, w64_step (by omega)]
    unfold digI at ih
    rw [Nat.zero_add] at ih
    by_cases h1 : (j : Int) < (s.size : Int)
    · rw [if_pos h1]
      by_cases h2 : bt s (j : Int) = 49
      · rw [if_pos h2]
        rw [if_pos ⟨h1, h2⟩] at ih
        exact ih
      · rw [if_neg h2]
        rw [if_neg (fun x => h2 x.2)] at ih
        exact ih
    · rw [if_neg h1]
      rw [if_neg (fun x => h1 x.1)] at ih
      exact ih
theorem dig_tail (s : ByteArray) (n : Nat) : digV (s.extract (num8 s) s.size) 0 n = digV s 8 n := by
  unfold digV
  refine congrArg strOfNums (List.map_congr_left fun i _ => ?_)
  unfold digI
  have hs : (s.extract (num8 s) s.size).size = s.size - num8 s := by simp
  by_cases h : ((8 + i : Nat) : Int) < s.size
  · have h8 : num8 s = 8 := by unfold num8; omega
    have e : bt (s.extract (num8 s) s.size) ((0 + i : Nat) : Int) = bt s ((8 + i : Nat) : Int) := by
      unfold bt
      rw [dif_pos (show ((0 + i : Nat) : Int).toNat < (s.extract (num8 s) s.size).size from by rw [hs]; omega), dif_pos (show ((8 + i : Nat) : Int).toNat < s.size from by omega)]
      have : (s.extract (num8 s) s.size)[((0 + i : Nat) : Int).toNat]'(by rw [hs]; omega) = s[((8 + i : Nat) : Int).toNat]'(by omega) := by
        simp only [ByteArray.getElem_extract, h8]
        congr 1
        omega
      rw [this]
    rw [e]
    have : ((0 + i : Nat) : Int) < (s.extract (num8 s) s.size).size := by rw [hs]; omega
    simp only [h, this, true_and]
  · rw [if_neg, if_neg]
    · rintro ⟨x, _⟩; exact h x
    · rintro ⟨x, _⟩
      rw [hs] at x
      unfold num8 at x
      omega
section
variable (c0 c1 c2 c3 c4 c5 c6 c7 c8 c9 : Int) (l : List Int)
theorem members_j0 (h : Plain c0 c1 c2 c3 c4 c5 c6 c7 c8 c9 l) (s : ByteArray) (k : Nat) (hk : 70 ≤ k) : number_Members.j0 k s c0 c1 c2 c3 c4 c5 c6 c7 c8 c9 l = some (digV s 0 c0.toNat) := by
  obtain ⟨k, rfl, hk'⟩ := peel (m := 69) (by omega)
  have := h.n
  rw [number_Members.j0, if_pos (by omega), if_pos (by omega), Option.bind_some, List.length_replicate]
  have h := members_l0 s c0.toNat (by omega) c0.toNat k 0 (by omega) (by omega)
  simpa using h
def membersV (own agreed : ByteArray) : ByteArray := if agreed.toList = [] then digV own 0 c0.toNat else digV agreed 8 c0.toNat
theorem members_eq (own agreed : ByteArray) (k : Nat) (hk : 100 ≤ k) : number_Members.f k c0 c1 c2 c3 c4 c5 c6 c7 c8 c9 l own agreed = some (if plainE c0 c1 c2 c3 c4 c5 c6 c7 c8 c9 l = 0 then membersV c0 own agreed else ⟨#[]⟩) := by
  unfold number_Members.f
  rw [plain_eq k (by omega), Option.bind_some]
  by_cases hp : plainE c0 c1 c2 c3 c4 c5 c6 c7 c8 c9 l = 0
  · have h := plain_iff.1 hp
    rw [if_pos hp, if_pos hp]
    unfold membersV
    by_cases ha : agreed.toList = []
    · rw [if_pos ha, if_pos ha, members_j0 _ _ _ _ _ _ _ _ _ _ _ h _ k (by omega)]
    · have e : mn 8 (agreed.size : Int) = (num8 agreed : Int) := by unfold mn num8; split <;> omega
      have hs : num8 agreed ≤ agreed.size := Nat.min_le_left _ _
      rw [if_neg ha, if_neg ha, e, if_pos (by omega), if_pos (by omega), Int.toNat_natCast, members_j0 _ _ _ _ _ _ _ _ _ _ _ h _ k (by omega), dig_tail]
  · rw [if_neg hp, if_neg hp]
def nextN (own : Int) (agreed : ByteArray) : Int := nextV c8 (if agreed.toList = [] then own else numV agreed (num8 agreed))
theorem next_eq (own : Int) (agreed : ByteArray) (k : Nat) (hk : 9 ≤ k) : number_Next.f k c0 c1 c2 c3 c4 c5 c6 c7 c8 c9 l own agreed = some (if plainE c0 c1 c2 c3 c4 c5 c6 c7 c8 c9 l = 0 then nextN c8 own agreed else 0) := by
  unfold number_Next.f
  rw [plain_eq k (by omega), Option.bind_some]
  by_cases hp : plainE c0 c1 c2 c3 c4 c5 c6 c7 c8 c9 l = 0
  · have hm := (plain_iff.1 hp).m
    rw [if_pos hp, if_pos hp]
    unfold nextN
    by_cases ha : agreed.toList = []
    · rw [if_pos ha, if_pos ha, behind_eq _ _ (by omega)]
    · rw [if_neg ha, if_neg ha, vnum_eq _ k hk, Option.bind_some, behind_eq _ _ (by omega)]
  · rw [if_neg hp, if_neg hp]
theorem no_bytes : (⟨#[]⟩ : ByteArray).toList = [] := by decide +kernel
end
theorem known20 (k : Nat) (hk : 200 ≤ k) : bellwetherlaw20_known.f k = some true := leo_up bellwetherlaw20_known.mono hk (by decide +kernel)
end Go.Proofs.Ytjfcedhjmmnofaa.Facts
