import Derived.Test.YthdoghhmooodjaaZScriptReadsGn0
import Derived.Test.YthdoghhmooodjaaZScriptReadsGn7
import Derived.Test.YthdoghhmooodjaaZScriptReadsGn8
import Derived.Test.YthdoghhmooodjaaZScriptReadsGn9
import Derived.Test.YthdoghhmooodjaaZScriptReadsGn10
import Derived.Test.YthdoghhmooodjaaZScriptReadsGn12
import Derived.Test.YthdoghhmooodjaaZScriptReadsGn14
import Derived.Test.YthdoghhmooodjaaZScriptReadsGn15
import Derived.Test.YthdoghhmooodjaaZScriptReadsGn28
import Derived.Test.YthdoghhmooodjaaZScriptReadsGn29
import Derived.Test.YthdoghhmooodjaaZScriptReadsGn30
import Derived.Test.YthdoghhmooodjaaZScriptReadsGn1
import Derived.Test.YthdoghhmooodjaaZScriptReadsRingFacts0
import Derived.Test.YthdoghhmooodjaaZScriptReadsCommon
import Derived.Test.YthdoghhmooodjaaZScriptReadsGn3
import Derived.Test.YthdoghhmooodjaaZScriptReadsBoundFacts
namespace Go.Proofs.Ythdoghhmooodjaa.Facts
open Go.RowKit Go.Proofs.Ythdoghhmooodjaa.Gn Go.Proofs.YthdoghhmooodjaaW.PrintWords Go.Proofs.YthdoghhmooodjaaW.PrintLast
set_option linter.unusedVariables false
set_option linter.unusedSimpArgs false
abbrev CF := S24
abbrev BU := S48
abbrev TK := S44
abbrev SC := S28
theorem rd_burst (xs : List BU) (i : Nat) (h : i < xs.length) : rd_T48 xs (i : Int) = xs[i] := by
  unfold rd_T48
  simp [List.getD_eq_getElem?_getD, h]
theorem rd_tick (xs : List TK) (i : Nat) (h : i < xs.length) : rd_T44 xs (i : Int) = xs[i] := by
  unfold rd_T44
  simp [List.getD_eq_getElem?_getD, h]
/-- How many nodes there are. -/
def clV (N : Int) : Int := if N < 0 then 0 else if 13 < N then 13 else N
theorem clV_bd (N : Int) : 0 ≤ clV N ∧ clV N ≤ 13 := by unfold clV; omega
theorem snodes_eq (k : Nat) (hk : 1 ≤ k) (c : CF) : script_nodes.f k c.f0 c.f1 c.f2 c.f3 c.f4 c.f5 c.f6 c.f7 c.f8 c.f9 c.f10 = some (clV c.f0) := by
  obtain ⟨k, rfl, _⟩ := peel hk
  unfold script_nodes.f num_Clamp.f clV
  by_cases h0 : c.f0 < 0
  · rw [if_pos h0, num_Clamp.j0, decide_eq_true h0, if_pos rfl, if_pos h0]
    rfl
  · rw [if_neg h0, num_Clamp.j0, if_neg (by decide), if_neg h0]
    by_cases h1 : c.f0 > 13
    · rw [if_pos h1, if_pos (show 13 < c.f0 from h1)]
      rfl
    · rw [if_neg h1, if_neg (show ¬ 13 < c.f0 from h1)]
      rfl
theorem sis_eq (k : Nat) (hk : 1 ≤ k) (c : CF) (n : Int) : script_is.f k c.f0 c.f1 c.f2 c.f3 c.f4 c.f5 c.f6 c.f7 c.f8 c.f9 c.f10 n = some (isV c.f0 n) := by
  obtain ⟨k, rfl, _⟩ := peel hk
  exact isV_eq k c.f0 c.f1 c.f2 c.f3 c.f4 c.f5 c.f6 c.f7 c.f8 c.f9 c.f10 n
theorem rclamp_eq (N : Int) : r01_Clamp.f N 0 13 = some (clV N) := by
  unfold r01_Clamp.f clV mn
  by_cases h0 : N < 0
  · rw [if_pos h0, if_pos h0]
  · rw [if_neg h0, if_neg h0, if_neg (by decide)]
theorem rnode_eq (c : CF) (n : Int) : r33_node.f c.f0 c.f1 c.f2 c.f3 c.f4 c.f5 c.f6 c.f7 c.f8 c.f9 c.f10 n = some (isV c.f0 n) := by
  unfold r33_node.f
  rw [rclamp_eq, Option.bind_some]
  show _ = some (decide (0 ≤ n) && decide (n < clV c.f0))
  by_cases h : n ≥ 0
  · rw [if_pos h, decide_eq_true (show 0 ≤ n from h), Bool.true_and]
  · rw [if_neg h, decide_eq_false (show ¬ 0 ≤ n from h), Bool.false_and]
/-- Is a number in a list: the program's and the reference's way. -/
theorem index_l0 (l : List Int) (x : Int) (hl : l.length ≤ 1000000) : ∀ (d k j : Nat), j + d = l.length → d + 1 ≤ k → ∃ r : Int, slices_Index_int_int.l0 k l x (l.length : Int) (j : Int) = some r ∧ decide (r ≥ 0) = (l.drop j).contains x
  | 0, k, j, h, hk => by
    obtain ⟨k, rfl, _⟩ := peel (show 0 + 1 ≤ k by omega)
    refine ⟨-1, by rw [slices_Index_int_int.l0, if_neg (by omega)], ?_⟩
    rw [List.drop_of_length_le (by omega)]
    rfl
  | d + 1, k, j, h, hk => by
    obtain ⟨k, rfl, hk'⟩ := peel hk
    have hj : j < l.length := by omega
    rw [slices_Index_int_int.l0, if_pos (by omega), if_pos (by omega), if_pos (by omega), rd_at l j hj, w64_step (by omega), List.drop_eq_getElem_cons hj]
    by_cases hx : x = l[j]
    · refine ⟨j, by rw [if_pos hx], ?_⟩
      have hx' : (x == l[j]) = true := by simpa using hx
      rw [decide_eq_true (show (j : Int) ≥ 0 by omega), List.contains_cons, hx', Bool.true_or]
    · obtain ⟨r, h1, h2⟩ := index_l0 l x hl d k (j + 1) (by omega) (by omega)
      refine ⟨r, by rw [if_neg hx]; exact h1, ?_⟩
      rw [h2]
      have hx' : (x == l[j]) = false := by simpa using hx
      rw [List.contains_cons, hx', Bool.false_or]
theorem contains_eq (l : List Int) (x : Int) (hl : l.length ≤ 1000000) (k : Nat) (hk : l.length + 1 ≤ k) : slices_Contains_int_int.f k l x = some (l.contains x) := by
  obtain ⟨r, h1, h2⟩ := index_l0 l x hl l.length k 0 (by omega) hk
  unfold slices_Contains_int_int.f slices_Index_int_int.f
  rw [show (0 : Int) = ((0 : Nat) : Int) from rfl, h1, Option.bind_some, show (((0 : Nat) : Int)) = 0 from rfl, h2, List.drop_zero]
theorem rin_l0 (l : List Int) (x : Int) (hl : l.length ≤ 1000000) : ∀ (d k j : Nat), j + d = l.length → d + 1 ≤ k → r14_In.l0 k l x (j : Int) = some ((l.drop j).contains x)
  | 0, k, j, h, hk => by
    obtain ⟨k, rfl, _⟩ := peel (show 0 + 1 ≤ k by omega)
    rw [r14_In.l0, if_neg (by omega), List.drop_of_length_le (by omega)]
    rfl
  | d + 1, k, j, h, hk => by
    obtain ⟨k, rfl, hk'⟩ := peel hk
    have hj : j < l.length := by omega
    rw [r14_In.l0, if_pos (by omega), if_pos (by omega), rd_at l j hj, w64_step (by omega), List.drop_eq_getElem_cons hj, List.contains_cons]
    by_cases hx : l[j] = x
    · rw [if_pos hx, hx]
      simp
    · have hx' : (x == l[j]) = false := by simpa using fun e => hx e.symm
      rw [if_neg hx, hx', Bool.false_or, rin_l0 l x hl d k (j + 1) (by omega) (by omega)]
theorem rin_eq (l : List Int) (x : Int) (hl : l.length ≤ 1000000) (k : Nat) (hk : l.length + 1 ≤ k) : r14_In.f k l x = some (l.contains x) := by
  unfold r14_In.f
  exact rin_l0 l x hl l.length k 0 (by omega) hk
/-- A tick of few things. -/
structure Tiny (t : TK) : Prop where
  h0 : t.f0.length ≤ 1000
  h1 : t.f1.length ≤ 1000
  h2 : t.f2.length ≤ 1000
  h3 : t.f3.length ≤ 1000
  h4 : t.f4.length ≤ 1000
  h5 : t.f5.length ≤ 1000
def fullV (t : TK) : Prop := (t.f2.length : Int) > 40 ∨ (t.f3.length : Int) > 40 ∨ (t.f4.length : Int) > 40 ∨ (t.f5.length : Int) > 40
instance (t : TK) : Decidable (fullV t) := by unfold fullV; infer_instance
end Go.Proofs.Ythdoghhmooodjaa.Facts
