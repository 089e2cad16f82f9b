import Derived.Test.YthdoghhmooodjaaZPremiseAfterGn0
import Derived.Test.YthdoghhmooodjaaZPremiseAfterGn43
import Derived.Test.YthdoghhmooodjaaZPremiseAfterGn44
import Derived.Test.YthdoghhmooodjaaZPremiseAfterGn48
import Derived.Test.YthdoghhmooodjaaZPremiseAfterGn49
import Derived.Test.YthdoghhmooodjaaZPremiseAfterGn51
import Derived.Test.YthdoghhmooodjaaZPremiseAfterGn1
import Derived.Test.YthdoghhmooodjaaZPremiseAfterGn35
import Derived.Test.YthdoghhmooodjaaZPremiseAfterGn25
import Derived.Test.YthdoghhmooodjaaZPremiseAfterGn27
import Derived.Test.YthdoghhmooodjaaZPremiseAfterScriptCount
namespace Go.Proofs.Ythdoghhmooodjaa.Facts
open Go.RowKit Go.Proofs.Ythdoghhmooodjaa.Gn Go.Proofs.YthdoghhmooodjaaW.PrintWords Go.Proofs.YthdoghhmooodjaaW.PrintLast
set_option linter.unusedVariables false
set_option linter.unusedSimpArgs false
theorem known34_at : l34_known.f 250 = some true := by decide +kernel
theorem known34 (k : Nat) (hk : 250 ≤ k) : l34_known.f k = some true := leo_up l34_known.mono hk known34_at
def holdsV (s : SC) : Int := if rightV s = 0 then (if (s.f1.length : Int) > s.f0.f1 then 7 else 0) else rightV s
theorem pholds_eq (k : Nat) (hk : 3100 ≤ k) (s : SC) (hs : Few 2900 s) : premise_Holds.f k s.f0.f0 s.f0.f1 s.f0.f2 s.f0.f3 s.f0.f4 s.f0.f5 s.f0.f6 s.f0.f7 s.f0.f8 s.f0.f9 s.f0.f10 s.f1 s.f2 s.f3 = some (holdsV s) := by
  unfold premise_Holds.f holdsV
  rw [sright_eq k hk s hs, Option.bind_some]
  by_cases h : rightV s = 0
  · rw [if_pos h, if_pos h]
    split <;> rfl
  · rw [if_neg h, if_neg h]
def swiftB (s : SC) (t i j : Int) : Bool := decide (1 ≤ delayV s t i j ∧ delayV s t i j ≤ s.f0.f2)
def steadyB (s : SC) (t i : Int) : Bool := decide (wrap64 (s.f0.f4 - s.f0.f5) ≤ unitsV s t i ∧ unitsV s t i ≤ wrap64 (s.f0.f4 + s.f0.f5))
def quietB (s : SC) (t : Int) : Bool := decide (((tkV s t).f3.length : Int) = 0) && decide (((tkV s t).f4.length : Int) = 0)
/-- Is a tick that there is calm. -/
def calmB (s : SC) (t : Int) : Bool := quietB s t && (honV s).all (fun i => steadyB s t i && (honV s).all (swiftB s t i))
def calmV (s : SC) (t : Int) : Bool := isT s t && (decide (plainE s.f0.f0 s.f0.f1 s.f0.f2 s.f0.f3 s.f0.f4 s.f0.f5 s.f0.f6 s.f0.f7 s.f0.f8 s.f0.f9 s.f0.f10 = 0) && calmB s t)
theorem quiet_eq (s : SC) (t : Int) (h0 : 0 ≤ t) (h1 : t < (s.f3.length : Int)) : premise_run_quiet.f s.f0.f0 s.f0.f1 s.f0.f2 s.f0.f3 s.f0.f4 s.f0.f5 s.f0.f6 s.f0.f7 s.f0.f8 s.f0.f9 s.f0.f10 s.f1 s.f2 s.f3 t = some (quietB s t) := by
  unfold premise_run_quiet.f quietB tkV
  rw [if_pos h0, if_pos h1]
  by_cases h : ((rd_T44 s.f3 t).f3.length : Int) = 0
  · rw [if_pos h, decide_eq_true h, Bool.true_and]
    rfl
  · rw [if_neg h, decide_eq_false h, Bool.false_and]
theorem swift_l0 (s : SC) (t i : Int) (X : List Int) (hX : X.length ≤ 100) : ∀ (d k j : Nat), j + d = X.length → d + 3 ≤ k → premise_run_swift.l0 k t i X (X.length : Int) (j : Int) s.f0.f0 s.f0.f1 s.f0.f2 s.f0.f3 s.f0.f4 s.f0.f5 s.f0.f6 s.f0.f7 s.f0.f8 s.f0.f9 s.f0.f10 s.f1 s.f2 s.f3 = some ((X.drop j).all (swiftB s t i))
  | 0, k, j, h, hk => by
    obtain ⟨k, rfl, _⟩ := peel (show 0 + 1 ≤ k by omega)
    rw [premise_run_swift.l0, if_neg (by omega), List.drop_of_length_le (by omega)]
    rfl
  | d + 1, k, j, h, hk => by
    obtain ⟨k, rfl, hk'⟩ := peel (show d + 3 + 1 ≤ k by omega)
    have hj : j < X.length := by omega
    rw [premise_run_swift.l0, if_pos (by omega), if_pos (by omega), if_pos (by omega), sdelay_eq k (by omega), Option.bind_some, rd_at X j hj, w64_step (by omega), swift_l0 s t i X hX d k (j + 1) (by omega) hk', List.drop_eq_getElem_cons hj, List.all_cons]
    by_cases h1 : delayV s t i X[j] < 1
    · have hp : swiftB s t i X[j] = false := decide_eq_false (by omega)
      rw [if_pos h1, hp]
      rfl
    · by_cases h2 : delayV s t i X[j] > s.f0.f2
      · have hp : swiftB s t i X[j] = false := decide_eq_false (by omega)
        rw [if_neg h1, if_pos h2, hp]
        rfl
      · have hp : swiftB s t i X[j] = true := decide_eq_true (by omega)
        rw [if_neg h1, if_neg h2, hp, Bool.true_and]
theorem swift_eq (s : SC) (t i : Int) (X : List Int) (hX : X.length ≤ 100) (k : Nat) (hk : 200 ≤ k) : premise_run_swift.f k s.f0.f0 s.f0.f1 s.f0.f2 s.f0.f3 s.f0.f4 s.f0.f5 s.f0.f6 s.f0.f7 s.f0.f8 s.f0.f9 s.f0.f10 s.f1 s.f2 s.f3 t i X = some (X.all (swiftB s t i)) := by
  unfold premise_run_swift.f
  have := swift_l0 s t i X hX X.length k 0 (by omega) (by omega)
  rw [List.drop_zero] at this
  exact this
theorem steady_eq (s : SC) (t i : Int) (k : Nat) (hk : 1 ≤ k) : premise_run_steady.f k s.f0.f0 s.f0.f1 s.f0.f2 s.f0.f3 s.f0.f4 s.f0.f5 s.f0.f6 s.f0.f7 s.f0.f8 s.f0.f9 s.f0.f10 s.f1 s.f2 s.f3 t i = some (steadyB s t i) := by
  unfold premise_run_steady.f
  rw [sunits_eq k hk, Option.bind_some]
  by_cases h : unitsV s t i ≥ wrap64 (s.f0.f4 - s.f0.f5)
  · rw [if_pos h]
    congr 1
    show _ = decide _
    rw [decide_eq_decide]
    omega
  · rw [if_neg h]
    congr 1
    exact (decide_eq_false (by omega)).symm
theorem calm_l0 (s : SC) (t : Int) (Y : List Int) (hY : Y.length ≤ 100) (X : List Int) (hX : X.length ≤ 100) : ∀ (d k j : Nat), j + d = X.length → d + 300 ≤ k → premise_run_calm.l0 k t Y X (X.length : Int) (j : Int) s.f0.f0 s.f0.f1 s.f0.f2 s.f0.f3 s.f0.f4 s.f0.f5 s.f0.f6 s.f0.f7 s.f0.f8 s.f0.f9 s.f0.f10 s.f1 s.f2 s.f3 = some ((X.drop j).all (fun i => steadyB s t i && Y.all (swiftB s t i)))
  | 0, k, j, h, hk => by
    obtain ⟨k, rfl, _⟩ := peel (show 0 + 1 ≤ k by omega)
    rw [premise_run_calm.l0, if_neg (by omega), List.drop_of_length_le (by omega)]
    rfl
  | d + 1, k, j, h, hk => by
    obtain ⟨k, rfl, hk'⟩ := peel (show d + 300 + 1 ≤ k by omega)
    have hj : j < X.length := by omega
    rw [premise_run_calm.l0, if_pos (by omega), if_pos (by omega), if_pos (by omega), steady_eq s t _ k (by omega), Option.bind_some, rd_at X j hj, swift_eq s t _ Y hY k (by omega), w64_step (by omega), calm_l0 s t Y hY X hX d k (j + 1) (by omega) hk', List.drop_eq_getElem_cons hj, List.all_cons]
    cases steadyB s t X[j] with
    | false => rfl
    | true =>
      rw [if_pos rfl, Option.bind_some]
      cases Y.all (swiftB s t X[j]) with
      | false => rfl
      | true => rfl
theorem calm_eq (s : SC) (t : Int) (hF : s.f1.length ≤ 100) (h0 : 0 ≤ t) (h1 : t < (s.f3.length : Int)) (k : Nat) (hk : 400 ≤ k) : premise_run_calm.f k s.f0.f0 s.f0.f1 s.f0.f2 s.f0.f3 s.f0.f4 s.f0.f5 s.f0.f6 s.f0.f7 s.f0.f8 s.f0.f9 s.f0.f10 s.f1 s.f2 s.f3 t = some (calmB s t) := by
  unfold premise_run_calm.f calmB
  rw [quiet_eq s t h0 h1, Option.bind_some]
  cases quietB s t with
  | false => rfl
  | true =>
    have hl := honV_len s
    have := calm_l0 s t (honV s) (by omega) (honV s) (by omega) (honV s).length k 0 (by omega) (by omega)
    rw [List.drop_zero] at this
    rw [if_pos rfl, shonest_eq k (by omega) s hF, Option.bind_some, Bool.true_and]
    exact this
theorem pcalm_eq (s : SC) (t : Int) (hF : s.f1.length ≤ 100) (k : Nat) (hk : 400 ≤ k) : premise_Calm.f k s.f0.f0 s.f0.f1 s.f0.f2 s.f0.f3 s.f0.f4 s.f0.f5 s.f0.f6 s.f0.f7 s.f0.f8 s.f0.f9 s.f0.f10 s.f1 s.f2 s.f3 t = some (calmV s t) := by
  unfold premise_Calm.f calmV
  by_cases h0 : t < 0
  · rw [if_pos h0, isT_false (.inl h0)]
    rfl
  by_cases h1 : t ≥ (s.f3.length : Int)
  · rw [if_neg h0, if_pos h1, isT_false (.inr h1)]
    rfl
  rw [if_neg h0, if_neg h1, isT_true (by omega) (by omega), Bool.true_and, plain_eq k (by omega), Option.bind_some]
  by_cases h2 : plainE s.f0.f0 s.f0.f1 s.f0.f2 s.f0.f3 s.f0.f4 s.f0.f5 s.f0.f6 s.f0.f7 s.f0.f8 s.f0.f9 s.f0.f10 = 0
  · rw [if_pos h2, decide_eq_true h2, Bool.true_and, calm_eq s t hF (by omega) (by omega) k hk]
    rfl
  · rw [if_neg h2, decide_eq_false h2]
    rfl
/-- The last tick that is not calm, of so many. -/
def lastV (s : SC) : Nat → Int
  | 0 => -1
  | n + 1 => if calmB s (n : Int) = true then lastV s n else (n : Int)
theorem lastV_bd (s : SC) : ∀ n, -1 ≤ lastV s n ∧ lastV s n < n
  | 0 => by unfold lastV; omega
  | n + 1 => by
    have := lastV_bd s n
    unfold lastV
    split <;> omega
theorem plast_l0 (s : SC) (hF : s.f1.length ≤ 100) : ∀ (n k : Nat), n ≤ s.f3.length → n ≤ 100000 → n + 401 ≤ k → premise_run_last.l0 k ((n : Int) - 1) s.f0.f0 s.f0.f1 s.f0.f2 s.f0.f3 s.f0.f4 s.f0.f5 s.f0.f6 s.f0.f7 s.f0.f8 s.f0.f9 s.f0.f10 s.f1 s.f2 s.f3 = some (lastV s n)
  | 0, k, h, h', hk => by
    obtain ⟨k, rfl, _⟩ := peel (show 0 + 1 ≤ k by omega)
    rw [premise_run_last.l0, if_neg (by omega)]
    rfl
  | n + 1, k, h, h', hk => by
    obtain ⟨k, rfl, hk'⟩ := peel (show n + 401 + 1 ≤ k by omega)
    have e : (((n + 1 : Nat) : Int) - 1) = (n : Int) := by omega
    have e2 : wrap64 ((n : Int) - 1) = (n : Int) - 1 := by unfold wrap64; omega
    rw [e, premise_run_last.l0, if_pos (by omega), calm_eq s _ hF (by omega) (by omega) k (by omega), Option.bind_some, e2, plast_l0 s hF n k (by omega) (by omega) hk', lastV]
    split <;> rfl
theorem prun_last_eq (s : SC) (hs : Few 2900 s) (k : Nat) (hk : 3400 ≤ k) : premise_run_last.f k s.f0.f0 s.f0.f1 s.f0.f2 s.f0.f3 s.f0.f4 s.f0.f5 s.f0.f6 s.f0.f7 s.f0.f8 s.f0.f9 s.f0.f10 s.f1 s.f2 s.f3 = some (lastV s s.f3.length) := by
  have := hs.tk
  unfold premise_run_last.f
  rw [show wrap64 ((s.f3.length : Int) - 1) = (s.f3.length : Int) - 1 by unfold wrap64; omega]
  exact plast_l0 s hs.fa _ k (Nat.le_refl _) (by omega) (by omega)
def lastE (s : SC) : Int := if rightV s = 0 then lastV s s.f3.length else -1
theorem plast_eq (s : SC) (hs : Few 2900 s) (k : Nat) (hk : 3400 ≤ k) : premise_Last.f k s.f0.f0 s.f0.f1 s.f0.f2 s.f0.f3 s.f0.f4 s.f0.f5 s.f0.f6 s.f0.f7 s.f0.f8 s.f0.f9 s.f0.f10 s.f1 s.f2 s.f3 = some (lastE s) := by
  unfold premise_Last.f lastE
  rw [sright_eq k (by omega) s hs, Option.bind_some, prun_last_eq s hs k hk]
  split <;> rfl
theorem calmV_in {s : SC} {t : Int} (hr : rightV s = 0) (h0 : 0 ≤ t) (h1 : t < (s.f3.length : Int)) : calmV s t = calmB s t := by
  unfold calmV
  rw [isT_true h0 h1, decide_eq_true (right_plain (right_zero hr).1), Bool.true_and, Bool.true_and]
def settledV (s : SC) : Int := if rightV s = 0 then wrap64 (lastV s s.f3.length + settleV s.f0.f1 s.f0.f2 s.f0.f3) else 0
def allV (s : SC) : Int := if rightV s = 0 then wrap64 (lastV s s.f3.length + (settleV s.f0.f1 s.f0.f2 s.f0.f3 + 4 * s.f0.f3)) else 0
theorem psettled_eq (s : SC) (hs : Few 2900 s) (k : Nat) (hk : 3400 ≤ k) : premise_Settled.f k s.f0.f0 s.f0.f1 s.f0.f2 s.f0.f3 s.f0.f4 s.f0.f5 s.f0.f6 s.f0.f7 s.f0.f8 s.f0.f9 s.f0.f10 s.f1 s.f2 s.f3 = some (settledV s) := by
  unfold premise_Settled.f settledV
  rw [sright_eq k (by omega) s hs, Option.bind_some]
  by_cases hr : rightV s = 0
  · rw [if_pos hr, if_pos hr, prun_last_eq s hs k hk, Option.bind_some, settle_eq (k := k) (hk := by omega), if_pos (right_plain (right_zero hr).1)]
    rfl
  · rw [if_neg hr, if_neg hr]
theorem pall_eq (s : SC) (hs : Few 2900 s) (k : Nat) (hk : 3400 ≤ k) : premise_All.f k s.f0.f0 s.f0.f1 s.f0.f2 s.f0.f3 s.f0.f4 s.f0.f5 s.f0.f6 s.f0.f7 s.f0.f8 s.f0.f9 s.f0.f10 s.f1 s.f2 s.f3 = some (allV s) := by
  unfold premise_All.f allV
  rw [sright_eq k (by omega) s hs, Option.bind_some]
  by_cases hr : rightV s = 0
  · rw [if_pos hr, if_pos hr, prun_last_eq s hs k hk, Option.bind_some, all_eq (k := k) (hk := by omega), if_pos (right_plain (right_zero hr).1)]
    rfl
  · rw [if_neg hr, if_neg hr]
theorem calmB_after (s : SC) : ∀ (n : Nat) (t : Nat), lastV s n < (t : Int) → t < n → calmB s (t : Int) = true
  | 0, t, h, h' => by omega
  | n + 1, t, h, h' => by
    unfold lastV at h
    cases e : calmB s (n : Int) with
    | true =>
      rw [e, if_pos rfl] at h
      by_cases e2 : t = n
      · rw [e2]; exact e
      · exact calmB_after s n t h (by omega)
    | false =>
      rw [e, if_neg (by decide)] at h
      omega
theorem calmB_last (s : SC) : ∀ n : Nat, 0 ≤ lastV s n → calmB s (lastV s n) = false
  | 0, h => by unfold lastV at h; omega
  | n + 1, h => by
    unfold lastV at h ⊢
    cases e : calmB s (n : Int) with
    | true => rw [e, if_pos rfl] at h; rw [if_pos rfl]; exact calmB_last s n h
    | false => rw [if_neg (by decide)]; exact e
end Go.Proofs.Ythdoghhmooodjaa.Facts
