import Derived.Test.YtbedfoeifaegmaaZLogKeepsGn0
import Derived.Test.YtbedfoeifaegmaaZLogKeepsGn3
import Derived.Test.YtbedfoeifaegmaaZLogKeepsGn6
import Derived.Test.YtbedfoeifaegmaaZLogKeepsGn9
import Derived.Test.YtbedfoeifaegmaaZLogKeepsGn13
import Derived.Test.YtbedfoeifaegmaaZLogKeepsRingFacts
import Derived.Test.YtbedfoeifaegmaaZLogKeepsRingRef
namespace Go.Proofs.Ytbedfoeifaegmaa.Facts
open Go.RowKit Go.Proofs.Ytbedfoeifaegmaa.Gn Go.Proofs.YtbedfoeifaegmaaW.PrintWords Go.Proofs.YtbedfoeifaegmaaW.PrintLast
set_option linter.unusedVariables false
abbrev EN := S43
theorem lpeel {k m : Nat} (h : m + 1 ≤ k) : ∃ n, k = n + 1 ∧ m ≤ n := ⟨k - 1, by omega, by omega⟩
theorem lstep {i : Nat} (h : i ≤ 1000000) : wrap64 ((i : Int) + 1) = ((i + 1 : Nat) : Int) := by unfold wrap64; omega
theorem lrd_at (l : List Int) (i : Nat) (h : i < l.length) : rd l (i : Int) = l[i] := by
  unfold rd
  simp [List.getD_eq_getElem?_getD, h]
theorem lleo_up {f : Nat → Option Bool} (h : ∀ k, LeO (f k) (f (k + 1))) {m k : Nat} (hk : m ≤ k) {b : Bool} (hm : f m = some b) : f k = some b := by
  induction hk with
  | refl => exact hm
  | step _ ih => exact h _ _ ih
/-- Whether a note is alive. -/
def aliveB (now width : Int) (e : EN) : Bool := decide (0 ≤ sgn now e.f1) && decide (sgn now e.f1 < width)
theorem sees_eq (now width a b : Int) : log_view_sees.f now width a b = some (aliveB now width ⟨a, b⟩) := by
  unfold log_view_sees.f aliveB
  rw [signed_eq, Option.bind_some]
  by_cases h : sgn now b ≥ 0
  · rw [if_pos h, decide_eq_true (show 0 ≤ sgn now b from h), Bool.true_and]
  · rw [if_neg h, decide_eq_false (show ¬ 0 ≤ sgn now b from h), Bool.false_and]
theorem ralive_eq (now width a b : Int) : r06_alive.f a b now width = some (aliveB now width ⟨a, b⟩) := by
  unfold r06_alive.f aliveB
  rw [ref_signed_eq, Option.bind_some]
  by_cases h : sgn now b ≥ 0
  · rw [if_pos h, decide_eq_true (show 0 ≤ sgn now b from h), Bool.true_and]
  · rw [if_neg h, decide_eq_false (show ¬ 0 ≤ sgn now b from h), Bool.false_and]
theorem seesB_eq (now width : Int) : seesB now width = aliveB now width := by
  funext e
  unfold seesB
  rw [sees_eq]
  cases aliveB now width e <;> rfl
theorem seesAll_true (now width : Int) (l : List EN) : seesAll now width l = true := by
  unfold seesAll
  rw [List.all_eq_true]
  intro e _
  rw [sees_eq]
  rfl
/-- The notes that are alive. -/
def prg (now width : Int) (l : List EN) : List EN := l.filter (aliveB now width)
theorem aliveL_full (now width : Int) (l : List EN) : aliveL now width l l.length = prg now width l := by
  unfold aliveL prg
  rw [List.take_length, seesB_eq]
theorem prg_len (now width : Int) (l : List EN) : (prg now width l).length ≤ l.length := List.length_filter_le _ _
theorem purge_eq (l : List EN) (hl : l.length ≤ 1000) (now width : Int) : log_Purge.f l now width = some (prg now width l) := by
  unfold log_Purge.f
  rw [if_pos ⟨seesAll_true _ _ _, by omega⟩, aliveL_full]
theorem rpurge_l0 (l : List EN) (hl : l.length ≤ 1000) (now width : Int) : ∀ (d k j : Nat) (acc : List EN), j + d = l.length → d + 1 ≤ k → acc.length ≤ j → r06_Purge.l0 k l now width acc (j : Int) = some (acc ++ prg now width (l.drop j))
  | 0, k, j, acc, h, hk, ha => by
    obtain ⟨k, rfl, _⟩ := lpeel hk
    rw [r06_Purge.l0, if_neg (by omega), List.drop_of_length_le (by omega)]
    simp [prg]
  | d + 1, k, j, acc, h, hk, ha => by
    obtain ⟨k, rfl, hk'⟩ := lpeel hk
    have hj : j < l.length := by omega
    rw [r06_Purge.l0, if_pos (by omega), if_pos (by omega), ralive_eq, Option.bind_some, rd_entry l j hj, lstep (by omega), List.drop_eq_getElem_cons hj]
    cases hb : aliveB now width l[j] with
    | true =>
      rw [if_pos rfl, if_pos (by omega), rpurge_l0 l hl now width d k (j + 1) _ (by omega) hk' (by rw [List.length_append]; exact Nat.add_le_add ha (Nat.le_refl _))]
      unfold prg
      rw [List.filter_cons, if_pos hb, List.append_assoc]
      rfl
    | false =>
      rw [if_neg (by decide), rpurge_l0 l hl now width d k (j + 1) _ (by omega) hk' (by omega)]
      unfold prg
      rw [List.filter_cons, if_neg (by rw [hb]; decide)]
theorem rpurge_eq (l : List EN) (hl : l.length ≤ 1000) (now width : Int) (k : Nat) (hk : l.length + 1 ≤ k) : r06_Purge.f k l now width = some (prg now width l) := by
  unfold r06_Purge.f
  rw [show (0 : Int) = ((0 : Nat) : Int) from rfl, rpurge_l0 l hl now width l.length k 0 [] (by omega) hk (Nat.le_refl _)]
  rfl
/-- How many notes of a node are alive. -/
def ofN (now width : Int) (l : List EN) (node : Int) : Nat := ((prg now width l).map (·.f0)).count node
abbrev WfE (l : List EN) : Prop := ∀ e ∈ l, (Lit.int .i64 e.f0).wf = true
theorem of_eq (l : List EN) (hl : l.length ≤ 1000) (hw : WfE l) (node now width : Int) (hn : (Lit.int .i64 node).wf = true) : log_Of.f l node now width = some ((ofN now width l node : Nat) : Int) := by
  unfold log_Of.f ofN
  rw [if_pos ⟨seesAll_true _ _ _, List.all_eq_true.2 hw, hn, by omega⟩, aliveL_full]
theorem rof_l0 (l : List EN) (hl : l.length ≤ 1000) (node now width : Int) : ∀ (d k j acc : Nat), j + d = l.length → d + 1 ≤ k → acc ≤ j → r06_Of.l0 k l node now width (acc : Int) (j : Int) = some ((acc + ofN now width (l.drop j) node : Nat) : Int)
  | 0, k, j, acc, h, hk, ha => by
    obtain ⟨k, rfl, _⟩ := lpeel hk
    rw [r06_Of.l0, if_neg (by omega), List.drop_of_length_le (by omega)]
    simp [ofN, prg]
  | d + 1, k, j, acc, h, hk, ha => by
    obtain ⟨k, rfl, hk'⟩ := lpeel hk
    have hj : j < l.length := by omega
    have hc : ofN now width (l[j] :: l.drop (j + 1)) node = (if l[j].f0 = node ∧ aliveB now width l[j] = true then 1 else 0) + ofN now width (l.drop (j + 1)) node := by
      unfold ofN prg
      rw [List.filter_cons]
      cases hb : aliveB now width l[j] with
      | true =>
        rw [if_pos rfl, List.map_cons, List.count_cons]
        by_cases he : l[j].f0 = node
        · simp [he]; omega
        · simp [he]
      | false => simp
    rw [r06_Of.l0, if_pos (by omega), if_pos (by omega), ralive_eq, Option.bind_some, rd_entry l j hj, lstep (by omega), lstep (by omega), List.drop_eq_getElem_cons hj, hc]
    by_cases he : l[j].f0 = node
    · rw [if_pos he]
      cases hb : aliveB now width l[j] with
      | true =>
        rw [if_pos rfl, rof_l0 l hl node now width d k (j + 1) (acc + 1) (by omega) hk' (by omega), if_pos ⟨he, rfl⟩]
        congr 2
        omega
      | false =>
        rw [if_neg (by decide), rof_l0 l hl node now width d k (j + 1) acc (by omega) hk' (by omega), if_neg (fun x => by cases x.2), Nat.zero_add]
    · rw [if_neg he, rof_l0 l hl node now width d k (j + 1) acc (by omega) hk' (by omega), if_neg (fun x => he x.1), Nat.zero_add]
theorem rof_eq (l : List EN) (hl : l.length ≤ 1000) (node now width : Int) (k : Nat) (hk : l.length + 1 ≤ k) : r06_Of.f k l node now width = some ((ofN now width l node : Nat) : Int) := by
  unfold r06_Of.f
  have := rof_l0 l hl node now width l.length k 0 0 (by omega) hk (Nat.le_refl _)
  simpa using this
/-- The notes with one more. -/
def addV (l : List EN) (e : EN) : List EN × Bool := if l.length ≥ 64 then (l.drop (l.length - 63) ++ [e], true) else (l ++ [e], false)
theorem add_eq (l : List EN) (hl : l.length ≤ 1000) (a b : Int) : log_Add.f l a b = some (addV l ⟨a, b⟩) := by
  unfold log_Add.f addV
  have hm : mn (l.length : Int) 64 + 1 = ((min l.length 64 + 1 : Nat) : Int) := by
    unfold mn
    split <;> omega
  rw [hm, if_pos (by omega), if_pos (by omega), Option.bind_some]
  by_cases h : l.length ≥ 64
  · have hw : wrap64 (wrap64 ((l.length : Int) - 64) + 1) = ((l.length - 63 : Nat) : Int) := by unfold wrap64; omega
    rw [if_pos (by omega), if_pos h, hw, if_pos (by omega), if_pos (by omega), Option.bind_some, if_pos (by simp; omega), Option.bind_some, if_pos (by simp; omega), Int.toNat_natCast, decide_eq_true (by omega)]
    rfl
  · rw [if_neg (by omega), if_neg h, if_pos (by simp; omega), Option.bind_some, if_pos (by simp; omega), decide_eq_false (by omega)]
    rfl
theorem radd_eq (l : List EN) (hl : l.length ≤ 1000) (a b : Int) : r06_Add.f l a b = some (addV l ⟨a, b⟩) := by
  unfold r06_Add.f addV
  rw [if_pos (by simp; omega), Option.bind_some, if_pos (by simp; omega), Option.bind_some, List.nil_append]
  have hlen : (l ++ [(⟨a, b⟩ : EN)]).length = l.length + 1 := by simp
  rw [hlen]
  by_cases h : l.length ≥ 64
  · have hw : wrap64 (((l.length + 1 : Nat) : Int) - 64) = ((l.length - 63 : Nat) : Int) := by unfold wrap64; omega
    rw [if_pos (by omega), if_pos h, hw, if_pos (by omega), if_pos (by omega), Int.toNat_natCast, List.drop_append_of_le_length (by omega)]
  · rw [if_neg (by omega), if_neg h]
theorem addV_len (l : List EN) (e : EN) : (addV l e).1.length ≤ l.length + 1 ∧ (addV l e).1.length ≤ 64 := by
  unfold addV
  split
  · simp; omega
  · simp; omega
theorem same_l0 (l : List EN) (hl : l.length ≤ 1000) : ∀ (d k j : Nat), j + d = l.length → d + 1 ≤ k → r06_Same.l0 k l l (j : Int) = some true
  | 0, k, j, h, hk => by
    obtain ⟨k, rfl, _⟩ := lpeel hk
    rw [r06_Same.l0, if_neg (by omega)]
  | d + 1, k, j, h, hk => by
    obtain ⟨k, rfl, hk'⟩ := lpeel hk
    rw [r06_Same.l0, if_pos (by omega), if_pos (by omega), if_pos (by omega), if_neg (by simp), lstep (by omega)]
    exact same_l0 l hl d k (j + 1) (by omega) hk'
theorem same_eq (l : List EN) (hl : l.length ≤ 1000) (k : Nat) (hk : l.length + 1 ≤ k) : r06_Same.f k l l = some true := by
  unfold r06_Same.f
  rw [if_pos rfl]
  exact same_l0 l hl l.length k 0 (by omega) hk
end Go.Proofs.Ytbedfoeifaegmaa.Facts
