import Derived.Test.YtbedfoeifaegmaaZLogCapsGn0
import Derived.Test.YtbedfoeifaegmaaZLogCapsGn3
import Derived.Test.YtbedfoeifaegmaaZLogCapsGn6
import Derived.Test.YtbedfoeifaegmaaZLogCapsGn9
import Derived.Test.YtbedfoeifaegmaaZLogCapsGn2
import Derived.Test.YtbedfoeifaegmaaZLogCapsRingFacts
namespace Go.Proofs.Ytbedfoeifaegmaa.Facts
open Go.RowKit Go.Proofs.Ytbedfoeifaegmaa.Gn Go.Proofs.YtbedfoeifaegmaaW.PrintWords Go.Proofs.YtbedfoeifaegmaaW.PrintLast
set_option linter.unusedVariables false
abbrev EN := S43
theorem lpeel {k m : Nat} (h : m + 1 ≤ k) : ∃ n, k = n + 1 ∧ m ≤ n := ⟨k - 1, by omega, by omega⟩
theorem lstep {i : Nat} (h : i ≤ 1000000) : wrap64 ((i : Int) + 1) = ((i + 1 : Nat) : Int) := by unfold wrap64; omega
theorem lleo_up {f : Nat → Option Bool} (h : ∀ k, LeO (f k) (f (k + 1))) {m k : Nat} (hk : m ≤ k) {b : Bool} (hm : f m = some b) : f k = some b := by
  induction hk with
  | refl => exact hm
  | step _ ih => exact h _ _ ih
/-- Whether a note is alive. -/
def aliveB (now width : Int) (e : EN) : Bool := decide (0 ≤ sgn now e.f1) && decide (sgn now e.f1 < width)
theorem sees_eq (now width a b : Int) : log_view_sees.f now width a b = some (aliveB now width ⟨a, b⟩) := by
  unfold log_view_sees.f aliveB
  rw [signed_eq, Option.bind_some]
  by_cases h : sgn now b ≥ 0
  · rw [if_pos h, decide_eq_true (show 0 ≤ sgn now b from h), Bool.true_and]
  · rw [if_neg h, decide_eq_false (show ¬ 0 ≤ sgn now b from h), Bool.false_and]
theorem seesB_eq (now width : Int) : seesB now width = aliveB now width := by
  funext e
  unfold seesB
  rw [sees_eq]
  cases aliveB now width e <;> rfl
theorem seesAll_true (now width : Int) (l : List EN) : seesAll now width l = true := by
  unfold seesAll
  rw [List.all_eq_true]
  intro e _
  rw [sees_eq]
  rfl
/-- The notes that are alive. -/
def prg (now width : Int) (l : List EN) : List EN := l.filter (aliveB now width)
theorem aliveL_full (now width : Int) (l : List EN) : aliveL now width l l.length = prg now width l := by
  unfold aliveL prg
  rw [List.take_length, seesB_eq]
abbrev WfE (l : List EN) : Prop := ∀ e ∈ l, (Lit.int .i64 e.f0).wf = true
/-- The notes with one more. -/
def addV (l : List EN) (e : EN) : List EN × Bool := if l.length ≥ 64 then (l.drop (l.length - 63) ++ [e], true) else (l ++ [e], false)
theorem add_eq (l : List EN) (hl : l.length ≤ 1000) (a b : Int) : log_Add.f l a b = some (addV l ⟨a, b⟩) := by
  unfold log_Add.f addV
  have hm : mn (l.length : Int) 64 + 1 = ((min l.length 64 + 1 : Nat) : Int) := by
    unfold mn
    split <;> omega
  rw [hm, if_pos (by omega), if_pos (by omega), Option.bind_some]
  by_cases h : l.length ≥ 64
  · have hw : wrap64 (wrap64 ((l.length : Int) - 64) + 1) = ((l.length - 63 : Nat) : Int) := by unfold wrap64; omega
    rw [if_pos (by omega), if_pos h, hw, if_pos (by omega), if_pos (by omega), Option.bind_some, if_pos (by simp; omega), Option.bind_some, if_pos (by simp; omega), Int.toNat_natCast, decide_eq_true (by omega)]
    rfl
  · rw [if_neg (by omega), if_neg h, if_pos (by simp; omega), Option.bind_some, if_pos (by simp; omega), decide_eq_false (by omega)]
    rfl
theorem addV_len (l : List EN) (e : EN) : (addV l e).1.length ≤ l.length + 1 ∧ (addV l e).1.length ≤ 64 := by
  unfold addV
  split
  · simp; omega
  · simp; omega
theorem same_l0 (l : List EN) (hl : l.length ≤ 1000) : ∀ (d k j : Nat), j + d = l.length → d + 1 ≤ k → r06_Same.l0 k l l (j : Int) = some true
  | 0, k, j, h, hk => by
    obtain ⟨k, rfl, _⟩ := lpeel hk
    rw [r06_Same.l0, if_neg (by omega)]
  | d + 1, k, j, h, hk => by
    obtain ⟨k, rfl, hk'⟩ := lpeel hk
    rw [r06_Same.l0, if_pos (by omega), if_pos (by omega), if_pos (by omega), if_neg (by simp), lstep (by omega)]
    exact same_l0 l hl d k (j + 1) (by omega) hk'
theorem same_eq (l : List EN) (hl : l.length ≤ 1000) (k : Nat) (hk : l.length + 1 ≤ k) : r06_Same.f k l l = some true := by
  unfold r06_Same.f
  rw [if_pos rfl]
  exact same_l0 l hl l.length k 0 (by omega) hk
end Go.Proofs.Ytbedfoeifaegmaa.Facts
