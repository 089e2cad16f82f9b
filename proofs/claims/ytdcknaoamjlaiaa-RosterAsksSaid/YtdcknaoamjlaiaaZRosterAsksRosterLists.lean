import Derived.Test.YtdcknaoamjlaiaaZRosterAsksRosterFacts
import Derived.Test.YtdcknaoamjlaiaaZRosterAsksGn2
import Derived.Test.YtdcknaoamjlaiaaZRosterAsksGn3
import Derived.Test.YtdcknaoamjlaiaaZRosterAsksGn4
import Derived.Test.YtdcknaoamjlaiaaZRosterAsksGn5
import Derived.Test.YtdcknaoamjlaiaaZRosterAsksGn7
namespace Go.Proofs.Ytdcknaoamjlaiaa.Facts
open Go.RowKit Go.Proofs.Ytdcknaoamjlaiaa.Gn Go.Proofs.YtdcknaoamjlaiaaW.PrintWords Go.Proofs.YtdcknaoamjlaiaaW.PrintLast
theorem rnodes_l0 (s : ByteArray) (hs : s.size ≤ 1000) : ∀ (d k j : Nat), j + d = s.size → d + 1 ≤ k → bellwetherref25_Nodes.l0 k s (whr (hasB s) (j : Int)) (j : Int) = some (whr (hasB s) (s.size : Int))
  | 0, k, j, h, hk => by
    obtain ⟨k, rfl, _⟩ := peel hk
    rw [bellwetherref25_Nodes.l0, if_neg (by omega), show j = s.size from by omega]
  | d + 1, k, j, h, hk => by
    obtain ⟨k, rfl, hk'⟩ := peel hk
    have ih := rnodes_l0 s hs d k (j + 1) (by omega) hk'
    have hl := whr_len (hasB s) j
    rw [whr_succ, hasB_in (by omega)] at ih
    rw [bellwetherref25_Nodes.l0, if_pos (by omega), if_pos (by omega), w64_step (by omega), if_pos (show (whr (hasB s) (j : Int)).length < 17592186044416 by omega)]
    by_cases e : bt s (j : Int) = 49
    · rw [if_pos e]
      rw [e] at ih
      exact ih
    · rw [if_neg e]
      rw [beq_eq_false_iff_ne.2 e] at ih
      simpa using ih
theorem rnodes_eq (s : ByteArray) (hs : s.size ≤ 1000) (k : Nat) (hk : s.size + 1 ≤ k) : bellwetherref25_Nodes.f k s = some (whr (hasB s) (s.size : Int)) := rnodes_l0 s hs s.size k 0 (by omega) hk
theorem nodes_eq (s : ByteArray) (hs : s.size ≤ 1000) : roster_Nodes.f s = some (whr (hasB s) (s.size : Int)) := by
  unfold roster_Nodes.f
  rw [if_pos (by omega)]
theorem count_eq (s : ByteArray) (hs : s.size ≤ 1000) : roster_Count.f s = some ((whr (hasB s) (s.size : Int)).length : Int) := by
  unfold roster_Count.f
  rw [nodes_eq s hs]
  rfl
theorem rcount_eq (s : ByteArray) (hs : s.size ≤ 1000) (k : Nat) (hk : s.size + 1 ≤ k) : bellwetherref25_Count.f k s = some ((whr (hasB s) (s.size : Int)).length : Int) := by
  unfold bellwetherref25_Count.f
  rw [rnodes_eq s hs k hk]
  rfl
section
variable (c0 c1 c2 c3 c4 c5 c6 c7 c8 c9 : Int) (c10 : List Int)
theorem blank_eq (k : Nat) (hk : 70 ≤ k) : roster_Blank.f k c0 c1 c2 c3 c4 c5 c6 c7 c8 c9 c10 = some (markV ⟨#[]⟩ (cl c0) []) := by
  unfold roster_Blank.f
  rw [gmark_eq _ _ _ (by simp) k (by simpa using hk)]
  rfl
theorem lacks_eq (s : ByteArray) (k : Nat) (hk : 70 ≤ k) : roster_Lacks.f k c0 c1 c2 c3 c4 c5 c6 c7 c8 c9 c10 s = some (whr (fun i => !hasB s i) (cl c0 : Int)) := by
  have := cl_le c0
  unfold roster_Lacks.f
  rw [blank_eq _ _ _ _ _ _ _ _ _ _ _ k hk, Option.bind_some, markV_size, if_pos (by omega)]
theorem rlacks_l0 (s : ByteArray) : ∀ (d k j : Nat), j + d = cl c0 → d + 1 ≤ k → bellwetherref25_Lacks.l0 k s (whr (fun i => !hasB s i) (j : Int)) (j : Int) c0 c1 c2 c3 c4 c5 c6 c7 c8 c9 c10 = some (whr (fun i => !hasB s i) (cl c0 : Int))
  | 0, k, j, h, hk => by
    obtain ⟨k, rfl, _⟩ := peel hk
    rw [bellwetherref25_Lacks.l0, rclamp_eq, Option.bind_some, if_neg (by omega), show j = cl c0 from by omega]
  | d + 1, k, j, h, hk => by
    obtain ⟨k, rfl, hk'⟩ := peel hk
    have hc := cl_le c0
    have ih := rlacks_l0 s d k (j + 1) (by omega) hk'
    have hl := whr_len (fun i => !hasB s i) j
    rw [whr_succ] at ih
    rw [bellwetherref25_Lacks.l0, rclamp_eq, Option.bind_some, if_pos (by omega), has25_eq, Option.bind_some, w64_step (by omega), if_pos (show (whr (fun i => !hasB s i) (j : Int)).length < 17592186044416 by omega)]
    cases e : hasB s (j : Int) with
    | true =>
      rw [e] at ih
      simpa using ih
    | false =>
      rw [e] at ih
      simpa using ih
theorem rlacks_eq (s : ByteArray) (k : Nat) (hk : 70 ≤ k) : bellwetherref25_Lacks.f k c0 c1 c2 c3 c4 c5 c6 c7 c8 c9 c10 s = some (whr (fun i => !hasB s i) (cl c0 : Int)) := by
  have := cl_le c0
  exact rlacks_l0 c0 c1 c2 c3 c4 c5 c6 c7 c8 c9 c10 s (cl c0) k 0 (by omega) (by omega)
end
theorem ints_l0 (l : List Int) (hl : l.length ≤ 1000) : ∀ (d k j : Nat), j + d = l.length → d + 1 ≤ k → bellwetherref06_Ints.l0 k l l (j : Int) = some true
  | 0, k, j, h, hk => by
    obtain ⟨k, rfl, _⟩ := peel hk
    rw [bellwetherref06_Ints.l0, if_neg (by omega)]
  | d + 1, k, j, h, hk => by
    obtain ⟨k, rfl, hk'⟩ := peel hk
    rw [bellwetherref06_Ints.l0, if_pos (by omega), if_pos (by omega), if_pos (by omega), if_pos rfl, w64_step (by omega), ints_l0 l hl d k (j + 1) (by omega) hk']
theorem ints_eq (l : List Int) (hl : l.length ≤ 1000) (k : Nat) (hk : l.length + 1 ≤ k) : bellwetherref06_Ints.f k l l = some true := by
  unfold bellwetherref06_Ints.f
  rw [if_pos rfl]
  exact ints_l0 l hl l.length k 0 (by omega) hk
theorem leo_up {f : Nat → Option Bool} (h : ∀ k, LeO (f k) (f (k + 1))) {m k : Nat} (hk : m ≤ k) {b : Bool} (hm : f m = some b) : f k = some b := by
  obtain ⟨d, rfl⟩ : ∃ d, k = m + d := ⟨k - m, by omega⟩
  induction d with
  | zero => exact hm
  | succ d ih => exact h _ _ (ih (by omega))
end Go.Proofs.Ytdcknaoamjlaiaa.Facts
