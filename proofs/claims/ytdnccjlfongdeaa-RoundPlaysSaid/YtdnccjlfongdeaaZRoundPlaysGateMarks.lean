import Derived.Test.YtdnccjlfongdeaaZRoundPlaysRingFacts0
import Derived.Test.YtdnccjlfongdeaaZRoundPlaysGnR
import Derived.Test.YtdnccjlfongdeaaZRoundPlaysGn5
import Derived.Test.YtdnccjlfongdeaaZRoundPlaysGn7
import Derived.Test.YtdnccjlfongdeaaZRoundPlaysGn8
import Derived.Test.YtdnccjlfongdeaaZRoundPlaysGn25
import Derived.Test.YtdnccjlfongdeaaZRoundPlaysGn29
import Derived.Test.YtdnccjlfongdeaaZRoundPlaysGn15
import Derived.Test.YtdnccjlfongdeaaZRoundPlaysGn33
import Derived.Test.YtdnccjlfongdeaaZRoundPlaysConfFacts
import Derived.Test.YtdnccjlfongdeaaZRoundPlaysBoundFacts
namespace Go.Proofs.Ytdnccjlfongdeaa.FactsM
open Go.RowKit Go.Proofs.Ytdnccjlfongdeaa.Gn Go.Proofs.YtdnccjlfongdeaaW.PrintWords Go.Proofs.YtdnccjlfongdeaaW.PrintLast
theorem peel {k m : Nat} (h : m + 1 ≤ k) : ∃ n, k = n + 1 ∧ m ≤ n := ⟨k - 1, by omega, by omega⟩
theorem w64_step {i : Nat} (h : i ≤ 1000000) : wrap64 ((i : Int) + 1) = ((i + 1 : Nat) : Int) := by unfold wrap64; omega
theorem rd_at (l : List Int) (i : Nat) (h : i < l.length) : rd l (i : Int) = l[i] := by
  unfold rd
  simp [List.getD_eq_getElem?_getD, h]
def hasB (s : ByteArray) (i : Int) : Bool := decide (0 ≤ i) && decide (i < (s.size : Int)) && (bt s i == 49)
def clI (a : Int) : Int := if a < 0 then 0 else if a > 64 then 64 else a
def cl (a : Int) : Nat := (clI a).toNat
theorem cl_int (a : Int) : ((cl a : Nat) : Int) = clI a := by unfold cl clI; split <;> (try split) <;> omega
theorem cl_le (a : Int) : cl a ≤ 64 := by unfold cl clI; split <;> (try split) <;> omega
theorem clamp_eq (k : Nat) (hk : 1 ≤ k) (a : Int) : num_Clamp.f k a 0 64 = some (cl a : Int) := by
  obtain ⟨k, rfl, _⟩ := peel hk
  rw [cl_int]
  unfold num_Clamp.f clI
  by_cases h : a < 0
  · rw [if_pos h, decide_eq_true h, num_Clamp.j0, if_pos rfl, if_pos h]
  · rw [if_neg h, if_neg h, num_Clamp.j0, if_neg (by decide)]
    by_cases h1 : a > 64
    · rw [if_pos h1, if_pos h1]
    · rw [if_neg h1, if_neg h1]
theorem rclamp_eq (a : Int) : r01_Clamp.f a 0 64 = some (cl a : Int) := by
  rw [cl_int]
  unfold r01_Clamp.f clI
  by_cases h : a < 0
  · rw [if_pos h, if_pos h]
  · rw [if_neg h, if_neg h, if_neg (by decide)]
    refine congrArg some ?_
    unfold mn
    split <;> rfl
theorem index_eq (l : List Int) (hl : l.length ≤ 1000) (a : Int) : ∀ (d k j : Nat), j + d = l.length → d + 1 ≤ k → ∃ t, slices_Index_int_int.l0 k l a (l.length : Int) (j : Int) = some t ∧ (t ≥ 0 ↔ a ∈ l.drop j)
  | 0, k, j, h, hk => by
    obtain ⟨k, rfl, _⟩ := peel hk
    refine ⟨-1, ?_, ?_⟩
    · rw [slices_Index_int_int.l0, if_neg (by omega)]
    · rw [List.drop_of_length_le (by omega)]; simp
  | d + 1, k, j, h, hk => by
    obtain ⟨k, rfl, hk'⟩ := peel hk
    have hj : j < l.length := by omega
    rw [slices_Index_int_int.l0, if_pos (by omega), if_pos (by omega), if_pos (by omega), rd_at l j hj, w64_step (by omega), List.drop_eq_getElem_cons hj]
    by_cases e : a = l[j]
    · exact ⟨j, by rw [if_pos e], by rw [e]; exact ⟨fun _ => List.mem_cons_self .., fun _ => by omega⟩⟩
    · obtain ⟨t, ht, hi⟩ := index_eq l hl a d k (j + 1) (by omega) hk'
      refine ⟨t, by rw [if_neg e, ht], ?_⟩
      rw [hi, List.mem_cons]
      simp [e]
theorem contains_eq (l : List Int) (hl : l.length ≤ 1000) (a : Int) (k : Nat) (hk : l.length + 1 ≤ k) : slices_Contains_int_int.f k l a = some (l.contains a) := by
  obtain ⟨t, ht, hi⟩ := index_eq l hl a l.length k 0 (by omega) hk
  unfold slices_Contains_int_int.f slices_Index_int_int.f
  rw [show (0 : Int) = ((0 : Nat) : Int) from rfl, ht, Option.bind_some]
  congr 1
  rw [Bool.eq_iff_iff, decide_eq_true_iff]
  rw [List.drop_zero] at hi
  rw [List.contains_iff_mem]
  exact hi
theorem in_eq (l : List Int) (hl : l.length ≤ 1000) (a : Int) : ∀ (d k j : Nat), j + d = l.length → d + 1 ≤ k → r14_In.l0 k l a (j : Int) = some ((l.drop j).contains a)
  | 0, k, j, h, hk => by
    obtain ⟨k, rfl, _⟩ := peel hk
    rw [r14_In.l0, if_neg (by omega), List.drop_of_length_le (by omega)]
    rfl
  | d + 1, k, j, h, hk => by
    obtain ⟨k, rfl, hk'⟩ := peel hk
    have hj : j < l.length := by omega
    rw [r14_In.l0, if_pos (by omega), if_pos (by omega), rd_at l j hj, w64_step (by omega), List.drop_eq_getElem_cons hj, List.contains_cons]
    by_cases e : l[j] = a
    · rw [if_pos e, e]; simp
    · rw [if_neg e, in_eq l hl a d k (j + 1) (by omega) hk']
      have : (a == l[j]) = false := by simp; exact fun h => e h.symm
      rw [this, Bool.false_or]
def markI (s : ByteArray) (l : List Int) (i : Nat) : Int := if (hasB s (i : Int) || l.contains (i : Int)) then 49 else 48
def markV (s : ByteArray) (n : Nat) (l : List Int) : ByteArray := strOfNums ((List.range n).map (markI s l))
theorem hasB_in {s : ByteArray} {j : Nat} (h : (j : Int) < (s.size : Int)) : hasB s (j : Int) = (bt s (j : Int) == 49) := by
  unfold hasB
  rw [decide_eq_true (show (0 : Int) ≤ j by omega), decide_eq_true h]
  rfl
theorem hasB_out {s : ByteArray} {j : Int} (h : ¬ j < (s.size : Int)) : hasB s j = false := by
  unfold hasB
  rw [decide_eq_false h]
  simp
theorem set_mid {α : Type} (a : List α) (x y : α) (b : List α) (j : Nat) (h : a.length = j) : (a ++ x :: b).set j y = a ++ y :: b := by
  subst h
  rw [List.set_append_right _ _ (Nat.le_refl _), Nat.sub_self]
  rfl
theorem gmark_l0 (s : ByteArray) (l : List Int) (hl : l.length ≤ 1000) (n : Nat) (hn : n ≤ 64) : ∀ (d k j : Nat), j + d = n → l.length + d + 2 ≤ k → gate_Mark.l0 k s l ((List.range j).map (markI s l) ++ List.replicate d 0) (n : Int) (j : Int) = some (markV s n l)
  | 0, k, j, h, hk => by
    obtain ⟨k, rfl, _⟩ := peel (Nat.le_trans (by omega : 0 + 1 ≤ l.length + 0 + 2) hk)
    rw [gate_Mark.l0, if_neg (by omega), show j = n from by omega]
    simp [markV]
  | d + 1, k, j, h, hk => by
    obtain ⟨k, rfl, hk'⟩ := peel (m := l.length + d + 2) (by omega)
    have hlen : ((List.range j).map (markI s l)).length = j := by simp
    have e1 : ∀ x : Int, ((List.range j).map (markI s l) ++ x :: List.replicate d 0).set (j : Int).toNat 48 = (List.range j).map (markI s l) ++ 48 :: List.replicate d 0 := fun x => set_mid _ x 48 _ _ hlen
    have e2 : ∀ x : Int, ((List.range j).map (markI s l) ++ x :: List.replicate d 0).set (j : Int).toNat 49 = (List.range j).map (markI s l) ++ 49 :: List.replicate d 0 := fun x => set_mid _ x 49 _ _ hlen
    have e3 : (List.range (j + 1)).map (markI s l) ++ List.replicate d 0 = (List.range j).map (markI s l) ++ markI s l j :: List.replicate d 0 := by
      rw [List.range_succ, List.map_append, List.append_assoc]
      rfl
    have ih := gmark_l0 s l hl n hn d k (j + 1) (by omega) hk'
    rw [e3] at ih
    rw [gate_Mark.l0, if_pos (by omega), if_pos (by omega), List.replicate_succ, if_pos (by simp; omega), Option.bind_some, e1, e2, contains_eq l hl _ k (by omega), w64_step (by omega)]
    simp only [Option.bind_some]
    unfold markI at ih
    by_cases h1 : (j : Int) < (s.size : Int)
    · rw [if_pos h1]
      rw [hasB_in h1] at ih
      by_cases h2 : bt s (j : Int) = 49
      · rw [if_pos h2]
        rw [h2] at ih
        exact ih
      · rw [if_neg h2]
        rw [beq_eq_false_iff_ne.2 h2, Bool.false_or] at ih
        by_cases h3 : l.contains (j : Int) = true
        · rw [if_pos h3]
          rw [if_pos h3] at ih
          exact ih
        · rw [if_neg h3]
          rw [if_neg h3] at ih
          exact ih
    · rw [if_neg h1]
      rw [hasB_out h1, Bool.false_or] at ih
      by_cases h3 : l.contains (j : Int) = true
      · rw [if_pos h3]
        rw [if_pos h3] at ih
        exact ih
      · rw [if_neg h3]
        rw [if_neg h3] at ih
        exact ih
theorem gmark_eq (s : ByteArray) (a : Int) (l : List Int) (hl : l.length ≤ 1000) (k : Nat) (hk : l.length + 70 ≤ k) : gate_Mark.f k s a l = some (markV s (cl a) l) := by
  unfold gate_Mark.f
  have := cl_le a
  rw [clamp_eq k (by omega), Option.bind_some, if_pos (by omega), if_pos (by omega), Option.bind_some, List.length_replicate, Int.toNat_natCast]
  have h := gmark_l0 s l hl (cl a) this (cl a) k 0 (by omega) (by omega)
  simpa using h
theorem has23_eq (s : ByteArray) (i : Int) : r23_Has.f s i = some (hasB s i) := by
  unfold r23_Has.f hasB
  by_cases h0 : i ≥ 0
  · rw [if_pos h0, decide_eq_true (show 0 ≤ i from h0)]
    by_cases h1 : i < (s.size : Int)
    · rw [if_pos h1, if_pos (show 0 ≤ i from h0), decide_eq_true h1]; rfl
    · rw [if_neg h1, decide_eq_false h1]; rfl
  · rw [if_neg h0, decide_eq_false (show ¬ 0 ≤ i from h0)]; rfl
theorem snoc49 (xs : List Int) : strOfNums xs ++ (⟨#[49]⟩ : ByteArray) = strOfNums (xs ++ [49]) := by
  apply ByteArray.ext
  simp [strOfNums]
theorem snoc48 (xs : List Int) : strOfNums xs ++ (⟨#[48]⟩ : ByteArray) = strOfNums (xs ++ [48]) := by
  apply ByteArray.ext
  simp [strOfNums]
theorem rmark_l0 (s : ByteArray) (a : Int) (l : List Int) (hl : l.length ≤ 1000) : ∀ (d k j : Nat), j + d = cl a → l.length + d + 2 ≤ k → r23_Mark.l0 k s a l (strOfNums ((List.range j).map (markI s l))) (j : Int) = some (markV s (cl a) l)
  | 0, k, j, h, hk => by
    obtain ⟨k, rfl, _⟩ := peel (Nat.le_trans (by omega : 0 + 1 ≤ l.length + 0 + 2) hk)
    rw [r23_Mark.l0, rclamp_eq, Option.bind_some, if_neg (by omega), show j = cl a from by omega]
    rfl
  | d + 1, k, j, h, hk => by
    obtain ⟨k, rfl, hk'⟩ := peel (m := l.length + d + 2) (by omega)
    have hc := cl_le a
    have hsz : (strOfNums ((List.range j).map (markI s l))).size = j := by rw [strOfNums_size]; simp
    have hsz' : (strOfNums ((List.range j).map (markI s l))).size + 1 ≤ 9223372036854775807 := by rw [hsz]; omega
    have ih := rmark_l0 s a l hl d k (j + 1) (by omega) hk'
    rw [List.range_succ, List.map_append, show [j].map (markI s l) = [markI s l j] from rfl] at ih
    unfold r23_Mark.l0
    rw [rclamp_eq, Option.bind_some, if_pos (by omega), has23_eq, Option.bind_some]
    unfold r14_In.f
    rw [show (0 : Int) = ((0 : Nat) : Int) from rfl, in_eq l hl _ l.length k 0 (by omega) (by omega), List.drop_zero, Option.bind_some, snoc49, snoc48, w64_step (by omega), if_pos hsz', if_pos hsz']
    unfold markI at ih
    cases h1 : hasB s (j : Int) with
    | true =>
      rw [h1] at ih
      exact ih
    | false =>
      rw [h1, Bool.false_or] at ih
      by_cases h3 : l.contains (j : Int) = true
      · rw [if_pos h3] at ih
        rw [if_neg (by decide), if_pos h3]
        exact ih
      · rw [if_neg h3] at ih
        rw [if_neg (by decide), if_neg h3]
        exact ih
theorem rmark_eq (s : ByteArray) (a : Int) (l : List Int) (hl : l.length ≤ 1000) (k : Nat) (hk : l.length + 70 ≤ k) : r23_Mark.f k s a l = some (markV s (cl a) l) := by
  have := cl_le a
  exact rmark_l0 s a l hl (cl a) k 0 (by omega) (by omega)
end Go.Proofs.Ytdnccjlfongdeaa.FactsM
namespace Go.Proofs.Ytdnccjlfongdeaa.Facts
open Go.RowKit Go.Proofs.Ytdnccjlfongdeaa.Gn Go.Proofs.YtdnccjlfongdeaaW.PrintWords Go.Proofs.YtdnccjlfongdeaaW.PrintLast
set_option linter.unusedVariables false
theorem mod_eq (a m : Int) (hm : 1 ≤ m ∧ m ≤ 1000) : num_Mod.f a m = some (a % m) := by
  unfold num_Mod.f
  rw [if_neg (by omega), if_neg (by omega), ← tmod_pos a m hm]
  split <;> rfl
theorem rmod_eq (a m : Int) (hm : 1 ≤ m ∧ m ≤ 1000) : r01_Mod.f a m = some (a % m) := by
  unfold r01_Mod.f
  rw [if_neg (by omega), if_neg (by omega), ← tmod_pos a m hm]
  split <;> rfl
theorem emod_bd (a m : Int) (hm : 1 ≤ m) : 0 ≤ a % m ∧ a % m < m := ⟨Int.emod_nonneg a (by omega), Int.emod_lt_of_pos a (by omega)⟩
section
variable (c0 c1 c2 c3 c4 c5 c6 c7 c8 c9 : Int) (l : List Int)
def apartV (a b : Int) : Int := (b % c8 - a % c8) % c8
theorem apart_eq (a b : Int) (k : Nat) (hk : 9 ≤ k) : number_Apart.f k c0 c1 c2 c3 c4 c5 c6 c7 c8 c9 l a b = some (if plainE c0 c1 c2 c3 c4 c5 c6 c7 c8 c9 l = 0 then apartV c8 a b else 0) := by
  unfold number_Apart.f
  rw [plain_eq k (by omega), Option.bind_some]
  by_cases hp : plainE c0 c1 c2 c3 c4 c5 c6 c7 c8 c9 l = 0
  · have hm := (plain_iff.1 hp).m
    have := emod_bd a c8 (by omega)
    have := emod_bd b c8 (by omega)
    rw [if_pos hp, if_pos hp, mod_eq _ _ (by omega), Option.bind_some, mod_eq _ _ (by omega), Option.bind_some, w64 (by omega), mod_eq _ _ (by omega)]
    rfl
  · rw [if_neg hp, if_neg hp]
theorem rapart_eq (a b : Int) (k : Nat) (hk : 700 ≤ k) : r20_Apart.f k c0 c1 c2 c3 c4 c5 c6 c7 c8 c9 l a b = some (if plainE c0 c1 c2 c3 c4 c5 c6 c7 c8 c9 l = 0 then apartV c8 a b else 0) := by
  unfold r20_Apart.f
  rw [ref_plain_eq _ _ _ _ _ _ _ _ _ _ _ k hk, Option.bind_some]
  by_cases hp : plainE c0 c1 c2 c3 c4 c5 c6 c7 c8 c9 l = 0
  · have hm := (plain_iff.1 hp).m
    have := emod_bd a c8 (by omega)
    have := emod_bd b c8 (by omega)
    rw [if_pos hp, if_pos hp, rmod_eq _ _ (by omega), Option.bind_some, rmod_eq _ _ (by omega), Option.bind_some, w64 (by omega), rmod_eq _ _ (by omega)]
    rfl
  · rw [if_neg hp, if_neg hp]
end
end Go.Proofs.Ytdnccjlfongdeaa.Facts
