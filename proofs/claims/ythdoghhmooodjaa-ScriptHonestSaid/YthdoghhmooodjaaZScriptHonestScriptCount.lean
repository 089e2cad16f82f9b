import Derived.Test.YthdoghhmooodjaaZScriptHonestGn0
import Derived.Test.YthdoghhmooodjaaZScriptHonestGn10
import Derived.Test.YthdoghhmooodjaaZScriptHonestScriptRead
namespace Go.Proofs.Ythdoghhmooodjaa.Facts
open Go.RowKit Go.Proofs.Ythdoghhmooodjaa.Gn Go.Proofs.YthdoghhmooodjaaW.PrintWords Go.Proofs.YthdoghhmooodjaaW.PrintLast
set_option linter.unusedVariables false
set_option linter.unusedSimpArgs false
theorem honF_mem (F : List Int) : ∀ (d i : Nat) (x : Int), x ∈ honF F d i → (i : Int) ≤ x ∧ x < i + d ∧ F.contains x = false
  | 0, i, x, h => by cases h
  | d + 1, i, x, h => by
    unfold honF at h
    split at h
    · have := honF_mem F d (i + 1) x h
      exact ⟨by omega, by omega, this.2.2⟩
    · rename_i hc
      rcases List.mem_cons.1 h with e | e
      · subst e
        exact ⟨by omega, by omega, Bool.eq_false_iff.2 hc⟩
      · have := honF_mem F d (i + 1) x e
        exact ⟨by omega, by omega, this.2.2⟩
theorem honF_up (F : List Int) : ∀ (d i : Nat), (honF F d i).Pairwise (· < ·)
  | 0, i => List.Pairwise.nil
  | d + 1, i => by
    unfold honF
    split
    · exact honF_up F d (i + 1)
    · exact List.Pairwise.cons (fun x hx => by have := honF_mem F d (i + 1) x hx; omega) (honF_up F d (i + 1))
/-- How many of so many numbers from one on a list has. -/
def cntF (F : List Int) : Nat → Nat → Nat
  | 0, _ => 0
  | d + 1, i => (if F.contains (i : Int) = true then 1 else 0) + cntF F d (i + 1)
theorem cnt_nil : ∀ (d i : Nat), cntF [] d i = 0
  | 0, _ => rfl
  | d + 1, i => by
    unfold cntF
    rw [cnt_nil d (i + 1)]
    rfl
theorem hon_cnt (F : List Int) : ∀ (d i : Nat), (honF F d i).length + cntF F d i = d
  | 0, _ => rfl
  | d + 1, i => by
    have := hon_cnt F d (i + 1)
    unfold honF cntF
    cases F.contains (i : Int) with
    | true => rw [if_pos rfl, if_pos rfl]; omega
    | false => rw [if_neg (by decide), if_neg (by decide), List.length_cons]; omega
theorem has_snoc (G : List Int) (x y : Int) : (G ++ [x]).contains y = (G.contains y || decide (y = x)) := by
  rw [Bool.eq_iff_iff]
  simp [List.contains_iff_mem]
theorem cnt_skip (G : List Int) (x : Int) : ∀ (d i : Nat), (x < i ∨ (i : Int) + d ≤ x) → cntF (G ++ [x]) d i = cntF G d i
  | 0, i, h => rfl
  | d + 1, i, h => by
    unfold cntF
    rw [cnt_skip G x d (i + 1) (by omega), has_snoc, decide_eq_false (show ¬ (i : Int) = x by omega), Bool.or_false]
theorem cnt_add (G : List Int) (x : Int) (hx : G.contains x = false) : ∀ (d i : Nat), (i : Int) ≤ x → x < (i : Int) + d → cntF (G ++ [x]) d i = cntF G d i + 1
  | 0, i, h, h' => by omega
  | d + 1, i, h, h' => by
    unfold cntF
    by_cases e : (i : Int) = x
    · rw [cnt_skip G x d (i + 1) (by omega), has_snoc, decide_eq_true e, Bool.or_true, e, hx, if_pos rfl, if_neg (by decide)]
      omega
    · rw [cnt_add G x hx d (i + 1) (by omega) (by omega), has_snoc, decide_eq_false e, Bool.or_false]
      omega
theorem flt_cnt {N : Int} (F : List Int) : ∀ (d j : Nat), j + d = F.length → fltV N F d j = true → cntF F (clV N).toNat 0 = cntF (F.take j) (clV N).toNat 0 + d
  | 0, j, h, _ => by rw [List.take_of_length_le (by omega)]; omega
  | d + 1, j, h, hf => by
    have hj : j < F.length := by omega
    unfold fltV at hf
    rw [rd_at F j hj, Bool.and_eq_true, Bool.and_eq_true] at hf
    obtain ⟨h1, h2, h3⟩ := hf
    have ih := flt_cnt F d (j + 1) (by omega) h3
    have hv := isV_pos h1
    have h2' : (F.take j).contains F[j] = false := by simpa using h2
    rw [ih, List.take_succ_eq_append_getElem hj, cnt_add (F.take j) F[j] h2' _ 0 (by omega) (by omega)]
    omega
theorem right_zero {s : SC} (h : rightV s = 0) : rightE s.f0.f0 s.f0.f1 s.f0.f2 s.f0.f3 s.f0.f4 s.f0.f5 s.f0.f6 s.f0.f7 s.f0.f8 s.f0.f9 s.f0.f10 = 0 ∧ fltV s.f0.f0 s.f1 s.f1.length 0 = true ∧ lateV s = false ∧ ticksV s.f0.f0 s.f3 = 0 := by
  unfold rightV at h
  split at h
  · rename_i h0
    split at h
    · rename_i h1
      split at h
      · omega
      · rename_i h2
        exact ⟨h0, h1, Bool.eq_false_iff.2 h2, h⟩
    · omega
  · rename_i h0
    exact absurd h h0
theorem right_plain {c0 c1 c2 c3 c4 c5 c6 c7 c8 c9 : Int} {l : List Int} (h : rightE c0 c1 c2 c3 c4 c5 c6 c7 c8 c9 l = 0) : plainE c0 c1 c2 c3 c4 c5 c6 c7 c8 c9 l = 0 := by
  unfold rightE at h
  split at h
  · assumption
  · rename_i h0
    first | exact absurd h h0 | omega
theorem right_nodes {c0 c1 c2 c3 c4 c5 c6 c7 c8 c9 : Int} {l : List Int} (h : rightE c0 c1 c2 c3 c4 c5 c6 c7 c8 c9 l = 0) : 4 ≤ c0 ∧ c0 ≤ 13 := (plain_iff.1 (right_plain h)).n
end Go.Proofs.Ythdoghhmooodjaa.Facts
