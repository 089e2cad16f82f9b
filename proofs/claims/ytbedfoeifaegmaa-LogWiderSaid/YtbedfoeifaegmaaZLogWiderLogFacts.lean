import Derived.Test.YtbedfoeifaegmaaZLogWiderGn0
import Derived.Test.YtbedfoeifaegmaaZLogWiderGn3
import Derived.Test.YtbedfoeifaegmaaZLogWiderGn6
import Derived.Test.YtbedfoeifaegmaaZLogWiderGn9
import Derived.Test.YtbedfoeifaegmaaZLogWiderGn2
import Derived.Test.YtbedfoeifaegmaaZLogWiderRingFacts
namespace Go.Proofs.Ytbedfoeifaegmaa.Facts
open Go.RowKit Go.Proofs.Ytbedfoeifaegmaa.Gn Go.Proofs.YtbedfoeifaegmaaW.PrintWords Go.Proofs.YtbedfoeifaegmaaW.PrintLast
set_option linter.unusedVariables false
abbrev EN := S43
theorem lpeel {k m : Nat} (h : m + 1 ≤ k) : ∃ n, k = n + 1 ∧ m ≤ n := ⟨k - 1, by omega, by omega⟩
theorem lstep {i : Nat} (h : i ≤ 1000000) : wrap64 ((i : Int) + 1) = ((i + 1 : Nat) : Int) := by unfold wrap64; omega
theorem lrd_at (l : List Int) (i : Nat) (h : i < l.length) : rd l (i : Int) = l[i] := by
  unfold rd
  simp [List.getD_eq_getElem?_getD, h]
theorem lleo_up {f : Nat → Option Bool} (h : ∀ k, LeO (f k) (f (k + 1))) {m k : Nat} (hk : m ≤ k) {b : Bool} (hm : f m = some b) : f k = some b := by
  induction hk with
  | refl => exact hm
  | step _ ih => exact h _ _ ih
/-- Whether a note is alive. -/
def aliveB (now width : Int) (e : EN) : Bool := decide (0 ≤ sgn now e.f1) && decide (sgn now e.f1 < width)
theorem sees_eq (now width a b : Int) : log_view_sees.f now width a b = some (aliveB now width ⟨a, b⟩) := by
  unfold log_view_sees.f aliveB
  rw [signed_eq, Option.bind_some]
  by_cases h : sgn now b ≥ 0
  · rw [if_pos h, decide_eq_true (show 0 ≤ sgn now b from h), Bool.true_and]
  · rw [if_neg h, decide_eq_false (show ¬ 0 ≤ sgn now b from h), Bool.false_and]
theorem seesB_eq (now width : Int) : seesB now width = aliveB now width := by
  funext e
  unfold seesB
  rw [sees_eq]
  cases aliveB now width e <;> rfl
theorem seesAll_true (now width : Int) (l : List EN) : seesAll now width l = true := by
  unfold seesAll
  rw [List.all_eq_true]
  intro e _
  rw [sees_eq]
  rfl
/-- The notes that are alive. -/
def prg (now width : Int) (l : List EN) : List EN := l.filter (aliveB now width)
theorem aliveL_full (now width : Int) (l : List EN) : aliveL now width l l.length = prg now width l := by
  unfold aliveL prg
  rw [List.take_length, seesB_eq]
theorem prg_len (now width : Int) (l : List EN) : (prg now width l).length ≤ l.length := List.length_filter_le _ _
theorem prg_mem {now width : Int} {l : List EN} {e : EN} (h : e ∈ prg now width l) : e ∈ l := (List.mem_filter.1 h).1
theorem purge_eq (l : List EN) (hl : l.length ≤ 1000) (now width : Int) : log_Purge.f l now width = some (prg now width l) := by
  unfold log_Purge.f
  rw [if_pos ⟨seesAll_true _ _ _, by omega⟩, aliveL_full]
/-- How many notes of a node are alive. -/
def ofN (now width : Int) (l : List EN) (node : Int) : Nat := ((prg now width l).map (·.f0)).count node
abbrev WfE (l : List EN) : Prop := ∀ e ∈ l, (Lit.int .i64 e.f0).wf = true
theorem of_eq (l : List EN) (hl : l.length ≤ 1000) (hw : WfE l) (node now width : Int) (hn : (Lit.int .i64 node).wf = true) : log_Of.f l node now width = some ((ofN now width l node : Nat) : Int) := by
  unfold log_Of.f ofN
  rw [if_pos ⟨seesAll_true _ _ _, List.all_eq_true.2 hw, hn, by omega⟩, aliveL_full]
theorem same_l0 (l : List EN) (hl : l.length ≤ 1000) : ∀ (d k j : Nat), j + d = l.length → d + 1 ≤ k → r06_Same.l0 k l l (j : Int) = some true
  | 0, k, j, h, hk => by
    obtain ⟨k, rfl, _⟩ := lpeel hk
    rw [r06_Same.l0, if_neg (by omega)]
  | d + 1, k, j, h, hk => by
    obtain ⟨k, rfl, hk'⟩ := lpeel hk
    rw [r06_Same.l0, if_pos (by omega), if_pos (by omega), if_pos (by omega), if_neg (by simp), lstep (by omega)]
    exact same_l0 l hl d k (j + 1) (by omega) hk'
theorem same_eq (l : List EN) (hl : l.length ≤ 1000) (k : Nat) (hk : l.length + 1 ≤ k) : r06_Same.f k l l = some true := by
  unfold r06_Same.f
  rw [if_pos rfl]
  exact same_l0 l hl l.length k 0 (by omega) hk
end Go.Proofs.Ytbedfoeifaegmaa.Facts
