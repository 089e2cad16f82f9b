import Derived.Test.YtdcknaoamjlaiaaZRosterJoinsRosterFacts
import Derived.Test.YtdcknaoamjlaiaaZRosterJoinsGn2
import Derived.Test.YtdcknaoamjlaiaaZRosterJoinsGn3
import Derived.Test.YtdcknaoamjlaiaaZRosterJoinsGn4
import Derived.Test.YtdcknaoamjlaiaaZRosterJoinsGn0
namespace Go.Proofs.Ytdcknaoamjlaiaa.Facts
open Go.RowKit Go.Proofs.Ytdcknaoamjlaiaa.Gn Go.Proofs.YtdcknaoamjlaiaaW.PrintWords Go.Proofs.YtdcknaoamjlaiaaW.PrintLast
theorem has_mark (s : ByteArray) (n : Nat) (l : List Int) (i : Nat) : hasB (markV s n l) (i : Int) = (decide (i < n) && (hasB s (i : Int) || l.contains (i : Int))) := by
  by_cases h : i < n
  · rw [hasB_in (by rw [markV_size]; omega), decide_eq_true h, Bool.true_and]
    have e : bt (markV s n l) (i : Int) = markI s l i := by
      unfold bt
      have hs : (i : Int).toNat < (markV s n l).size := by rw [markV_size]; simpa using h
      rw [dif_pos hs]
      have : (markV s n l)[(i : Int).toNat]'hs = UInt8.ofNat (markI s l i).toNat := by
        show ((((List.range n).map (markI s l)).map fun (n : Int) => UInt8.ofNat n.toNat).toArray)[i]'_ = _
        simp
      rw [this]
      unfold markI
      split <;> rfl
    rw [e]
    unfold markI
    cases (hasB s (i : Int) || l.contains (i : Int)) <;> rfl
  · rw [hasB_out (by rw [markV_size]; omega), decide_eq_false h]
    rfl
theorem markV_congr {s s' : ByteArray} {n : Nat} {l l' : List Int} (h : ∀ i, i < n → (hasB s (i : Int) || l.contains (i : Int)) = (hasB s' (i : Int) || l'.contains (i : Int))) : markV s n l = markV s' n l' := by
  unfold markV
  congr 1
  refine List.map_congr_left fun i hi => ?_
  unfold markI
  rw [h i (List.mem_range.1 hi)]
theorem hasB_empty (i : Int) : hasB ⟨#[]⟩ i = false := by
  unfold hasB
  by_cases h : 0 ≤ i
  · rw [decide_eq_false (show ¬ i < ((⟨#[]⟩ : ByteArray).size : Int) from by show ¬ i < (0 : Int); omega)]
    simp
  · rw [decide_eq_false h]
    simp
theorem whr_mem (p : Int → Bool) (n : Nat) (i : Int) : i ∈ whr p (n : Int) ↔ 0 ≤ i ∧ i < n ∧ p i = true := by
  unfold whr
  rw [List.mem_filter, List.mem_map]
  constructor
  · rintro ⟨⟨j, hj, rfl⟩, hp⟩
    rw [List.mem_range] at hj
    exact ⟨by omega, by simp at hj; omega, hp⟩
  · rintro ⟨h0, h1, hp⟩
    exact ⟨⟨i.toNat, by rw [List.mem_range]; simp; omega, by omega⟩, hp⟩
theorem whr_contains (p : Int → Bool) (n i : Nat) (h : i < n) : (whr p (n : Int)).contains (i : Int) = p (i : Int) := by
  rw [Bool.eq_iff_iff, List.contains_iff_mem, whr_mem]
  exact ⟨fun h => h.2.2, fun hp => ⟨by omega, by omega, hp⟩⟩
theorem whr_congr {p q : Int → Bool} (n : Nat) (h : ∀ i : Nat, i < n → p (i : Int) = q (i : Int)) : whr p (n : Int) = whr q (n : Int) := by
  unfold whr
  refine List.filter_congr fun x hx => ?_
  rw [List.mem_map] at hx
  obtain ⟨j, hj, rfl⟩ := hx
  rw [List.mem_range] at hj
  exact h j (by simpa using hj)
section
variable (c0 c1 c2 c3 c4 c5 c6 c7 c8 c9 : Int) (c10 : List Int)
theorem blank_eq (k : Nat) (hk : 70 ≤ k) : roster_Blank.f k c0 c1 c2 c3 c4 c5 c6 c7 c8 c9 c10 = some (markV ⟨#[]⟩ (cl c0) []) := by
  unfold roster_Blank.f
  rw [gmark_eq _ _ _ (by simp) k (by simpa using hk)]
  rfl
theorem mark_eq (s : ByteArray) (l : List Int) (hl : l.length ≤ 1000) (k : Nat) (hk : l.length + 70 ≤ k) : roster_Mark.f k c0 c1 c2 c3 c4 c5 c6 c7 c8 c9 c10 s l = some (markV s (cl c0) l) := by
  unfold roster_Mark.f
  rw [gmark_eq _ _ _ hl k hk]
  rfl
theorem both_eq (s t : ByteArray) (k : Nat) (hk : 140 ≤ k) : roster_Both.f k c0 c1 c2 c3 c4 c5 c6 c7 c8 c9 c10 s t = some (markV ⟨#[]⟩ (cl c0) (whr (fun i => hasB s i && hasB t i) (cl c0 : Int))) := by
  have := cl_le c0
  have hl := whr_len (fun i => hasB s i && hasB t i) (cl c0)
  unfold roster_Both.f
  rw [blank_eq _ _ _ _ _ _ _ _ _ _ _ k (by omega), Option.bind_some, markV_size, if_pos (by omega), mark_eq _ _ _ _ _ _ _ _ _ _ _ _ _ (by omega) k (by omega)]
end
theorem leo_up {f : Nat → Option Bool} (h : ∀ k, LeO (f k) (f (k + 1))) {m k : Nat} (hk : m ≤ k) {b : Bool} (hm : f m = some b) : f k = some b := by
  obtain ⟨d, rfl⟩ : ∃ d, k = m + d := ⟨k - m, by omega⟩
  induction d with
  | zero => exact hm
  | succ d ih => exact h _ _ (ih (by omega))
end Go.Proofs.Ytdcknaoamjlaiaa.Facts
