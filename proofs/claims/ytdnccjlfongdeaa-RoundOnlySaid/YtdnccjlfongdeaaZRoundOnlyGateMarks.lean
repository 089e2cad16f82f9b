import Derived.Test.YtdnccjlfongdeaaZRoundOnlyRingFacts0
import Derived.Test.YtdnccjlfongdeaaZRoundOnlyGnR
import Derived.Test.YtdnccjlfongdeaaZRoundOnlyGn6
import Derived.Test.YtdnccjlfongdeaaZRoundOnlyGn7
import Derived.Test.YtdnccjlfongdeaaZRoundOnlyGn8
import Derived.Test.YtdnccjlfongdeaaZRoundOnlyGn2
import Derived.Test.YtdnccjlfongdeaaZRoundOnlyGn0
namespace Go.Proofs.Ytdnccjlfongdeaa.FactsM
open Go.RowKit Go.Proofs.Ytdnccjlfongdeaa.Gn Go.Proofs.YtdnccjlfongdeaaW.PrintWords Go.Proofs.YtdnccjlfongdeaaW.PrintLast
theorem peel {k m : Nat} (h : m + 1 ≤ k) : ∃ n, k = n + 1 ∧ m ≤ n := ⟨k - 1, by omega, by omega⟩
theorem w64_step {i : Nat} (h : i ≤ 1000000) : wrap64 ((i : Int) + 1) = ((i + 1 : Nat) : Int) := by unfold wrap64; omega
theorem rd_at (l : List Int) (i : Nat) (h : i < l.length) : rd l (i : Int) = l[i] := by
  unfold rd
  simp [List.getD_eq_getElem?_getD, h]
def hasB (s : ByteArray) (i : Int) : Bool := decide (0 ≤ i) && decide (i < (s.size : Int)) && (bt s i == 49)
def clI (a : Int) : Int := if a < 0 then 0 else if a > 64 then 64 else a
def cl (a : Int) : Nat := (clI a).toNat
theorem cl_int (a : Int) : ((cl a : Nat) : Int) = clI a := by unfold cl clI; split <;> (try split) <;> omega
theorem cl_le (a : Int) : cl a ≤ 64 := by unfold cl clI; split <;> (try split) <;> omega
theorem cl_id {a : Int} (h0 : 0 ≤ a) (h1 : a ≤ 64) : ((cl a : Nat) : Int) = a := by rw [cl_int]; unfold clI; rw [if_neg (by omega), if_neg (by omega)]
theorem clamp_eq (k : Nat) (hk : 1 ≤ k) (a : Int) : num_Clamp.f k a 0 64 = some (cl a : Int) := by
  obtain ⟨k, rfl, _⟩ := peel hk
  rw [cl_int]
  unfold num_Clamp.f clI
  by_cases h : a < 0
  · rw [if_pos h, decide_eq_true h, num_Clamp.j0, if_pos rfl, if_pos h]
  · rw [if_neg h, if_neg h, num_Clamp.j0, if_neg (by decide)]
    by_cases h1 : a > 64
    · rw [if_pos h1, if_pos h1]
    · rw [if_neg h1, if_neg h1]
theorem index_eq (l : List Int) (hl : l.length ≤ 1000) (a : Int) : ∀ (d k j : Nat), j + d = l.length → d + 1 ≤ k → ∃ t, slices_Index_int_int.l0 k l a (l.length : Int) (j : Int) = some t ∧ (t ≥ 0 ↔ a ∈ l.drop j)
  | 0, k, j, h, hk => by
    obtain ⟨k, rfl, _⟩ := peel hk
    refine ⟨-1, ?_, ?_⟩
    · rw [slices_Index_int_int.l0, if_neg (by omega)]
    · rw [List.drop_of_length_le (by omega)]; simp
  | d + 1, k, j, h, hk => by
    obtain ⟨k, rfl, hk'⟩ := peel hk
    have hj : j < l.length := by omega
    rw [slices_Index_int_int.l0, if_pos (by omega), if_pos (by omega), if_pos (by omega), rd_at l j hj, w64_step (by omega), List.drop_eq_getElem_cons hj]
    by_cases e : a = l[j]
    · exact ⟨j, by rw [if_pos e], by rw [e]; exact ⟨fun _ => List.mem_cons_self .., fun _ => by omega⟩⟩
    · obtain ⟨t, ht, hi⟩ := index_eq l hl a d k (j + 1) (by omega) hk'
      refine ⟨t, by rw [if_neg e, ht], ?_⟩
      rw [hi, List.mem_cons]
      simp [e]
theorem contains_eq (l : List Int) (hl : l.length ≤ 1000) (a : Int) (k : Nat) (hk : l.length + 1 ≤ k) : slices_Contains_int_int.f k l a = some (l.contains a) := by
  obtain ⟨t, ht, hi⟩ := index_eq l hl a l.length k 0 (by omega) hk
  unfold slices_Contains_int_int.f slices_Index_int_int.f
  rw [show (0 : Int) = ((0 : Nat) : Int) from rfl, ht, Option.bind_some]
  congr 1
  rw [Bool.eq_iff_iff, decide_eq_true_iff]
  rw [List.drop_zero] at hi
  rw [List.contains_iff_mem]
  exact hi
def markI (s : ByteArray) (l : List Int) (i : Nat) : Int := if (hasB s (i : Int) || l.contains (i : Int)) then 49 else 48
def markV (s : ByteArray) (n : Nat) (l : List Int) : ByteArray := strOfNums ((List.range n).map (markI s l))
theorem markV_size (s : ByteArray) (n : Nat) (l : List Int) : (markV s n l).size = n := by
  unfold markV
  rw [strOfNums_size]
  simp
theorem hasB_in {s : ByteArray} {j : Nat} (h : (j : Int) < (s.size : Int)) : hasB s (j : Int) = (bt s (j : Int) == 49) := by
  unfold hasB
  rw [decide_eq_true (show (0 : Int) ≤ j by omega), decide_eq_true h]
  rfl
theorem hasB_out {s : ByteArray} {j : Int} (h : ¬ j < (s.size : Int)) : hasB s j = false := by
  unfold hasB
  rw [decide_eq_false h]
  simp
theorem set_mid {α : Type} (a : List α) (x y : α) (b : List α) (j : Nat) (h : a.length = j) : (a ++ x :: b).set j y = a ++ y :: b := by
  subst h
  rw [List.set_append_right _ _ (Nat.le_refl _), Nat.sub_self]
  rfl
theorem gmark_l0 (s : ByteArray) (l : List Int) (hl : l.length ≤ 1000) (n : Nat) (hn : n ≤ 64) : ∀ (d k j : Nat), j + d = n → l.length + d + 2 ≤ k → gate_Mark.l0 k s l ((List.range j).map (markI s l) ++ List.replicate d 0) (n : Int) (j : Int) = some (markV s n l)
  | 0, k, j, h, hk => by
    obtain ⟨k, rfl, _⟩ := peel (Nat.le_trans (by omega : 0 + 1 ≤ l.length + 0 + 2) hk)
    rw [gate_Mark.l0, if_neg (by omega), show j = n from by omega]
    simp [markV]
  | d + 1, k, j, h, hk => by
    obtain ⟨k, rfl, hk'⟩ := peel (m := l.length + d + 2) (by omega)
    have hlen : ((List.range j).map (markI s l)).length = j := by simp
    have e1 : ∀ x : Int, ((List.range j).map (markI s l) ++ x :: List.replicate d 0).set (j : Int).toNat 48 = (List.range j).map (markI s l) ++ 48 :: List.replicate d 0 := fun x => set_mid _ x 48 _ _ hlen
    have e2 : ∀ x : Int, ((List.range j).map (markI s l) ++ x :: List.replicate d 0).set (j : Int).toNat 49 = (List.range j).map (markI s l) ++ 49 :: List.replicate d 0 := fun x => set_mid _ x 49 _ _ hlen
    have e3 : (List.range (j + 1)).map (markI s l) ++ List.replicate d 0 = (List.range j).map (markI s l) ++ markI s l j :: List.replicate d 0 := by
      rw [List.range_succ, List.map_append, List.append_assoc]
      rfl
    have ih := gmark_l0 s l hl n hn d k (j + 1) (by omega) hk'
    rw [e3] at ih
    rw [gate_Mark.l0, if_pos (by omega), if_pos (by omega), List.replicate_succ, if_pos (by simp; omega), Option.bind_some, e1, e2, contains_eq l hl _ k (by omega), w64_step (by omega)]
    simp only [Option.bind_some]
    unfold markI at ih
    by_cases h1 : (j : Int) < (s.size : Int)
    · rw [if_pos h1]
      rw [hasB_in h1] at ih
      by_cases h2 : bt s (j : Int) = 49
      · rw [if_pos h2]
        rw [h2] at ih
        exact ih
      · rw [if_neg h2]
        rw [beq_eq_false_iff_ne.2 h2, Bool.false_or] at ih
        by_cases h3 : l.contains (j : Int) = true
        · rw [if_pos h3]
          rw [if_pos h3] at ih
          exact ih
        · rw [if_neg h3]
          rw [if_neg h3] at ih
          exact ih
    · rw [if_neg h1]
      rw [hasB_out h1, Bool.false_or] at ih
      by_cases h3 : l.contains (j : Int) = true
      · rw [if_pos h3]
        rw [if_pos h3] at ih
        exact ih
      · rw [if_neg h3]
        rw [if_neg h3] at ih
        exact ih
theorem gmark_eq (s : ByteArray) (a : Int) (l : List Int) (hl : l.length ≤ 1000) (k : Nat) (hk : l.length + 70 ≤ k) : gate_Mark.f k s a l = some (markV s (cl a) l) := by
  unfold gate_Mark.f
  have := cl_le a
  rw [clamp_eq k (by omega), Option.bind_some, if_pos (by omega), if_pos (by omega), Option.bind_some, List.length_replicate, Int.toNat_natCast]
  have h := gmark_l0 s l hl (cl a) this (cl a) k 0 (by omega) (by omega)
  simpa using h
end Go.Proofs.Ytdnccjlfongdeaa.FactsM
