import Derived.Test.YthdoghhmooodjaaZScriptCutsStmtScriptCuts
import Derived.Test.YthdoghhmooodjaaZScriptCutsScriptCount
namespace Go.Proofs.Ythdoghhmooodjaa.Pure
open Go.RowKit Go.Proofs.Ythdoghhmooodjaa.Gn Go.Proofs.YthdoghhmooodjaaW.PrintWords Go.Proofs.YthdoghhmooodjaaW.PrintLast Go.Proofs.Ythdoghhmooodjaa.Facts Go.Proofs.Ythdoghhmooodjaa.Opens
theorem cuts_j3 (s : SC) (l : List TK) (n : Int) (b : Bool) (hN : 4 ≤ s.f0.f0 ∧ s.f0.f0 ≤ 13) (hb : b = true ↔ n < 0 ∨ n ≥ s.f0.f0) : l33_ScriptCuts.j3 (400000 + 1) n (l.length : Int) b s.f0.f0 s.f0.f1 s.f0.f2 s.f0.f3 s.f0.f4 s.f0.f5 s.f0.f6 s.f0.f7 s.f0.f8 s.f0.f9 s.f0.f10 s.f1 s.f2 s.f3 s.f0.f0 s.f0.f1 s.f0.f2 s.f0.f3 s.f0.f4 s.f0.f5 s.f0.f6 s.f0.f7 s.f0.f8 s.f0.f9 s.f0.f10 s.f1 s.f2 (l ++ [noT]) = some true := by
  have hk := known33 400000 (by omega)
  have hc : clV s.f0.f0 = s.f0.f0 := by unfold clV; omega
  have hU : ∀ m, script_Units.f 400000 s.f0.f0 s.f0.f1 s.f0.f2 s.f0.f3 s.f0.f4 s.f0.f5 s.f0.f6 s.f0.f7 s.f0.f8 s.f0.f9 s.f0.f10 s.f1 s.f2 (l ++ [noT]) (l.length : Int) m = some (unitsV (withT s (l ++ [noT])) (l.length : Int) m) := fun m => sunits_eq 400000 (by omega) (withT s (l ++ [noT])) (l.length : Int) m
  have hD : ∀ a b, script_Delay.f 400000 s.f0.f0 s.f0.f1 s.f0.f2 s.f0.f3 s.f0.f4 s.f0.f5 s.f0.f6 s.f0.f7 s.f0.f8 s.f0.f9 s.f0.f10 s.f1 s.f2 (l ++ [noT]) (l.length : Int) a b = some (delayV (withT s (l ++ [noT])) (l.length : Int) a b) := fun a b => sdelay_eq 400000 (by omega) (withT s (l ++ [noT])) (l.length : Int) a b
  have hT : isT (withT s (l ++ [noT])) (l.length : Int) = true := isT_true (by omega) (by show (l.length : Int) < ((l ++ [noT]).length : Int); rw [List.length_append, List.length_singleton]; omega)
  have hr : tkV (withT s (l ++ [noT])) (l.length : Int) = noT := rd_last l noT
  rw [l33_ScriptCuts.j3]
  cases b with
  | true =>
    have hv : isV (withT s (l ++ [noT])).f0.f0 n = false := by
      show isV s.f0.f0 n = false
      cases e : isV s.f0.f0 n with
      | false => rfl
      | true => have := isV_pos e; have := hb.1 rfl; omega
    have e1 : unitsV (withT s (l ++ [noT])) (l.length : Int) n = 0 := by
      unfold unitsV
      rw [hv, Bool.and_false]
      rfl
    have e2 : delayV (withT s (l ++ [noT])) (l.length : Int) n 0 = 0 := by
      unfold delayV
      rw [hv, Bool.false_and, Bool.and_false]
      rfl
    rw [if_pos rfl, hU, e1, Option.bind_some, if_pos rfl, hD, e2, Option.bind_some, if_pos rfl, hk]
    rfl
  | false =>
    have hn : 0 ≤ n ∧ n < s.f0.f0 := by
      by_cases h : n < 0 ∨ n ≥ s.f0.f0
      · exact absurd (hb.2 h) (by decide)
      · omega
    have hv : ∀ m, 0 ≤ m ∧ m < s.f0.f0 → isV (withT s (l ++ [noT])).f0.f0 m = true := fun m hm => by
      show (decide (0 ≤ m) && decide (m < clV s.f0.f0)) = true
      rw [decide_eq_true hm.1, decide_eq_true (by omega)]
      rfl
    have e1 : unitsV (withT s (l ++ [noT])) (l.length : Int) n = s.f0.f4 := by
      unfold unitsV
      rw [hT, hv n hn, Bool.and_self, if_pos rfl, hr]
      exact if_neg (show ¬ n < (0 : Int) by omega)
    have e2 : ∀ a b, (0 ≤ a ∧ a < s.f0.f0) → (0 ≤ b ∧ b < s.f0.f0) → delayV (withT s (l ++ [noT])) (l.length : Int) a b = s.f0.f2 := fun a b ha hb => by
      unfold delayV
      have hp := (place_w (hv a ha) (hv b hb)).2
      rw [hT, hv a ha, hv b hb, Bool.and_self, Bool.and_self, if_pos rfl, hr]
      exact if_neg (show ¬ a * clV (withT s (l ++ [noT])).f0.f0 + b < (0 : Int) by omega)
    rw [if_neg (by decide), hU, e1, Option.bind_some, if_pos rfl, hD, e2 n 0 hn (by omega), Option.bind_some, if_pos rfl, hD, e2 0 n (by omega) hn, Option.bind_some, if_pos rfl, hk]
    rfl
theorem cuts_j2 (s : SC) (l : List TK) (n : Int) (hs : Few 2900 s) (hr : rightV s = 0) (hl : l.length ≤ 400) (hz : ∀ t ∈ l, tickV s.f0.f0 t = 0) (ht : ∀ t ∈ l, Tiny t) : l33_ScriptCuts.j2 (400000 + 1 + 1) n s.f0.f0 s.f0.f1 s.f0.f2 s.f0.f3 s.f0.f4 s.f0.f5 s.f0.f6 s.f0.f7 s.f0.f8 s.f0.f9 s.f0.f10 s.f1 s.f2 s.f3 s.f0.f0 s.f0.f1 s.f0.f2 s.f0.f3 s.f0.f4 s.f0.f5 s.f0.f6 s.f0.f7 s.f0.f8 s.f0.f9 s.f0.f10 s.f1 s.f2 l = some true := by
  have hN := right_nodes (right_zero hr).1
  have hr1 := with_right (l := l) hr (by omega) hz
  have hm : ∀ t ∈ l ++ [noT], t ∈ l ∨ t = noT := fun t h => by simpa using h
  have hr2 := with_right (l := l ++ [noT]) hr (by simp; omega) (fun t h => by rcases hm t h with e | e; exact hz t e; rw [e]; exact noT_zero hN)
  have a1 := sright_eq (400000 + 1) (by omega) _ (with_few (l := l) (m := 2900) hs (by omega) ht)
  have a2 := sright_eq (400000 + 1) (by omega) _ (with_few (l := l ++ [noT]) (m := 2900) hs (by simp; omega) (fun t h => by rcases hm t h with e | e; exact ht t e; rw [e]; exact noT_tiny))
  rw [hr1] at a1
  rw [hr2] at a2
  dsimp only [withT] at a1 a2
  have hn0 : (⟨[], [], [], [], [], []⟩ : TK) = noT := rfl
  rw [l33_ScriptCuts.j2, a1, Option.bind_some, if_pos rfl, if_pos (by simp; omega), Option.bind_some, List.nil_append, if_pos (by omega), Option.bind_some, hn0, a2, Option.bind_some, if_pos rfl]
  by_cases h0 : n < 0
  · rw [if_pos h0]
    exact cuts_j3 s l n true hN ⟨fun _ => .inl h0, fun _ => rfl⟩
  · rw [if_neg h0]
    exact cuts_j3 s l n _ hN ⟨fun h => .inr (of_decide_eq_true h), fun h => decide_eq_true (by omega)⟩
theorem ScriptCuts : Gn.ScriptCuts.Pure := by
  intro s a n _ _ _
  obtain ⟨b, h1, h2⟩ := few_eq s 400 (by omega) (400000 + 1 + 1 + 1 + 1) (by omega)
  have hj0 : l33_ScriptCuts.j0 (400000 + 1 + 1 + 1 + 1) a n true s.f0.f0 s.f0.f1 s.f0.f2 s.f0.f3 s.f0.f4 s.f0.f5 s.f0.f6 s.f0.f7 s.f0.f8 s.f0.f9 s.f0.f10 s.f1 s.f2 s.f3 = some true := by
    rw [l33_ScriptCuts.j0, if_pos rfl, known33 _ (by omega)]
    rfl
  refine ⟨400000 + 1 + 1 + 1 + 1, ?_⟩
  unfold l33_ScriptCuts.f
  rw [show (400 : Int) = ((400 : Nat) : Int) from rfl, h1, Option.bind_some]
  cases b with
  | false => rw [if_neg (by decide), hj0]
  | true =>
    have hs := (h2 rfl).to (m := 2900) (by omega)
    have hT := (h2 rfl).tk
    rw [if_pos rfl, sright_eq _ (by omega) s hs, Option.bind_some]
    by_cases hr : rightV s = 0
    · have hz := ticks_all.1 (right_zero hr).2.2.2
      have full := cuts_j2 s s.f3 n hs hr hT hz hs.each
      rw [hr, show ((0 : Int) != 0) = false from rfl, l33_ScriptCuts.j0, if_neg (by decide)]
      by_cases h0 : a ≥ 0
      · rw [if_pos h0, l33_ScriptCuts.j1]
        by_cases h3 : a < (s.f3.length : Int)
        · rw [if_pos (decide_eq_true h3), if_pos (show 0 ≤ a from h0), if_pos (by omega)]
          exact cuts_j2 s (s.f3.take a.toNat) n hs hr (by rw [List.length_take]; omega) (fun t h => hz t (List.mem_of_mem_take h)) (fun t h => hs.each t (List.mem_of_mem_take h))
        · rw [if_neg (by rw [decide_eq_false h3]; decide)]
          exact full
      · rw [if_neg h0, l33_ScriptCuts.j1, if_neg (by decide)]
        exact full
    · rw [show (rightV s != 0) = true from bne_iff_ne.2 hr, hj0]
end Go.Proofs.Ythdoghhmooodjaa.Pure
