import Derived.Test.YthdoghhmooodjaaZPremiseAfterGn0
import Derived.Test.YthdoghhmooodjaaZPremiseAfterGn10
import Derived.Test.YthdoghhmooodjaaZPremiseAfterScriptRead
namespace Go.Proofs.Ythdoghhmooodjaa.Facts
open Go.RowKit Go.Proofs.Ythdoghhmooodjaa.Gn Go.Proofs.YthdoghhmooodjaaW.PrintWords Go.Proofs.YthdoghhmooodjaaW.PrintLast
set_option linter.unusedVariables false
set_option linter.unusedSimpArgs false
theorem honF_mem (F : List Int) : ∀ (d i : Nat) (x : Int), x ∈ honF F d i → (i : Int) ≤ x ∧ x < i + d ∧ F.contains x = false
  | 0, i, x, h => by cases h
  | d + 1, i, x, h => by
    unfold honF at h
    split at h
    · have := honF_mem F d (i + 1) x h
      exact ⟨by omega, by omega, this.2.2⟩
    · rename_i hc
      rcases List.mem_cons.1 h with e | e
      · subst e
        exact ⟨by omega, by omega, Bool.eq_false_iff.2 hc⟩
      · have := honF_mem F d (i + 1) x e
        exact ⟨by omega, by omega, this.2.2⟩
theorem right_zero {s : SC} (h : rightV s = 0) : rightE s.f0.f0 s.f0.f1 s.f0.f2 s.f0.f3 s.f0.f4 s.f0.f5 s.f0.f6 s.f0.f7 s.f0.f8 s.f0.f9 s.f0.f10 = 0 ∧ fltV s.f0.f0 s.f1 s.f1.length 0 = true ∧ lateV s = false ∧ ticksV s.f0.f0 s.f3 = 0 := by
  unfold rightV at h
  split at h
  · rename_i h0
    split at h
    · rename_i h1
      split at h
      · omega
      · rename_i h2
        exact ⟨h0, h1, Bool.eq_false_iff.2 h2, h⟩
    · omega
  · rename_i h0
    exact absurd h h0
theorem right_plain {c0 c1 c2 c3 c4 c5 c6 c7 c8 c9 : Int} {l : List Int} (h : rightE c0 c1 c2 c3 c4 c5 c6 c7 c8 c9 l = 0) : plainE c0 c1 c2 c3 c4 c5 c6 c7 c8 c9 l = 0 := by
  unfold rightE at h
  split at h
  · assumption
  · rename_i h0
    first | exact absurd h h0 | omega
theorem right_nodes {c0 c1 c2 c3 c4 c5 c6 c7 c8 c9 : Int} {l : List Int} (h : rightE c0 c1 c2 c3 c4 c5 c6 c7 c8 c9 l = 0) : 4 ≤ c0 ∧ c0 ≤ 13 := (plain_iff.1 (right_plain h)).n
theorem ticks_all {N : Int} : ∀ {l : List TK}, ticksV N l = 0 ↔ ∀ t ∈ l, tickV N t = 0
  | [] => ⟨fun _ _ h => (by cases h), fun _ => rfl⟩
  | t :: ts => by
    rw [ticksV, List.forall_mem_cons, ← ticks_all (l := ts)]
    by_cases h : tickV N t = 0
    · rw [if_pos h]
      exact ⟨fun x => ⟨h, x⟩, fun x => x.2⟩
    · rw [if_neg h]
      exact ⟨fun x => absurd x h, fun x => absurd x.1 h⟩
/-- A tick that lists nothing. -/
def noT : TK := ⟨[], [], [], [], [], []⟩
theorem noT_tiny : Tiny noT := ⟨by decide, by decide, by decide, by decide, by decide, by decide⟩
theorem noT_zero {N : Int} (hN : 4 ≤ N ∧ N ≤ 13) : tickV N noT = 0 := by
  have hq := mul_bd (x := N) (y := N) (a := 13) (b := 13) ⟨by omega, hN.2⟩ ⟨by omega, hN.2⟩
  have h1 : numsV N noT = true := by
    show ((decide ((0 : Int) ≤ N) && true) && (decide ((0 : Int) ≤ wrap64 (N * N)) && true) && true) = true
    rw [decide_eq_true (show (0 : Int) ≤ N by omega), decide_eq_true (show (0 : Int) ≤ wrap64 (N * N) by generalize N * N = q at hq ⊢; unfold wrap64; omega)]
    rfl
  have h2 : ¬ fullV noT := by
    show ¬ ((0 : Int) > 40 ∨ (0 : Int) > 40 ∨ (0 : Int) > 40 ∨ (0 : Int) > 40)
    omega
  unfold tickV tailV
  rw [if_pos h1, if_neg h2]
  rfl
/-- A script with other ticks. -/
def withT (s : SC) (l : List TK) : SC := ⟨s.f0, s.f1, s.f2, l⟩
theorem with_right {s : SC} {l : List TK} (h : rightV s = 0) (hl : l.length ≤ 2000) (ht : ∀ t ∈ l, tickV s.f0.f0 t = 0) : rightV (withT s l) = 0 := by
  obtain ⟨h1, h2, h3, _⟩ := right_zero h
  have h4 : lateV (withT s l) = false := by
    unfold lateV at h3 ⊢
    show (decide ((s.f2.length : Int) > s.f0.f0) || decide ((l.length : Int) > 2000) || !s.f2.all script_Right1B) = false
    cases ha : decide ((s.f2.length : Int) > s.f0.f0) with
    | true => rw [ha] at h3; simp at h3
    | false =>
      cases hb : s.f2.all script_Right1B with
      | true => rw [decide_eq_false (by omega)]; rfl
      | false => rw [hb] at h3; simp at h3
  unfold rightV
  show (if rightE s.f0.f0 s.f0.f1 s.f0.f2 s.f0.f3 s.f0.f4 s.f0.f5 s.f0.f6 s.f0.f7 s.f0.f8 s.f0.f9 s.f0.f10 = 0 then (if fltV s.f0.f0 s.f1 s.f1.length 0 = true then (if lateV (withT s l) = true then 6 else ticksV s.f0.f0 l) else 7) else rightE s.f0.f0 s.f0.f1 s.f0.f2 s.f0.f3 s.f0.f4 s.f0.f5 s.f0.f6 s.f0.f7 s.f0.f8 s.f0.f9 s.f0.f10) = 0
  rw [if_pos h1, if_pos h2, h4, if_neg (by decide), ticks_all.2 ht]
theorem with_few {n m : Nat} {s : SC} {l : List TK} (h : Few n s) (hl : l.length ≤ m) (ht : ∀ t ∈ l, Tiny t) : Few m (withT s l) := ⟨hl, h.tb, h.fa, h.im, ht⟩
theorem rd_last (l : List TK) (t : TK) : rd_T44 (l ++ [t]) (l.length : Int) = t := by
  rw [rd_tick (l ++ [t]) l.length (by simp)]
  simp
end Go.Proofs.Ythdoghhmooodjaa.Facts
