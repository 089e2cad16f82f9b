import Derived.Test.YthdoghhmooodjaaZPremiseLastGn0
import Derived.Test.YthdoghhmooodjaaZPremiseLastGn43
import Derived.Test.YthdoghhmooodjaaZPremiseLastGn44
import Derived.Test.YthdoghhmooodjaaZPremiseLastGn46
import Derived.Test.YthdoghhmooodjaaZPremiseLastGn49
import Derived.Test.YthdoghhmooodjaaZPremiseLastGn51
import Derived.Test.YthdoghhmooodjaaZPremiseLastGn1
import Derived.Test.YthdoghhmooodjaaZPremiseLastGn35
import Derived.Test.YthdoghhmooodjaaZPremiseLastGn53
import Derived.Test.YthdoghhmooodjaaZPremiseLastGn55
import Derived.Test.YthdoghhmooodjaaZPremiseLastGn59
import Derived.Test.YthdoghhmooodjaaZPremiseLastScriptCount
namespace Go.Proofs.Ythdoghhmooodjaa.Facts
open Go.RowKit Go.Proofs.Ythdoghhmooodjaa.Gn Go.Proofs.YthdoghhmooodjaaW.PrintWords Go.Proofs.YthdoghhmooodjaaW.PrintLast
set_option linter.unusedVariables false
set_option linter.unusedSimpArgs false
theorem known34_at : l34_known.f 250 = some true := by decide +kernel
theorem known34 (k : Nat) (hk : 250 ≤ k) : l34_known.f k = some true := leo_up l34_known.mono hk known34_at
def swiftB (s : SC) (t i j : Int) : Bool := decide (1 ≤ delayV s t i j ∧ delayV s t i j ≤ s.f0.f2)
def steadyB (s : SC) (t i : Int) : Bool := decide (wrap64 (s.f0.f4 - s.f0.f5) ≤ unitsV s t i ∧ unitsV s t i ≤ wrap64 (s.f0.f4 + s.f0.f5))
def quietB (s : SC) (t : Int) : Bool := decide (((tkV s t).f3.length : Int) = 0) && decide (((tkV s t).f4.length : Int) = 0)
/-- Is a tick that there is calm. -/
def calmB (s : SC) (t : Int) : Bool := quietB s t && (honV s).all (fun i => steadyB s t i && (honV s).all (swiftB s t i))
def calmV (s : SC) (t : Int) : Bool := isT s t && (decide (plainE s.f0.f0 s.f0.f1 s.f0.f2 s.f0.f3 s.f0.f4 s.f0.f5 s.f0.f6 s.f0.f7 s.f0.f8 s.f0.f9 s.f0.f10 = 0) && calmB s t)
theorem quiet_eq (s : SC) (t : Int) (h0 : 0 ≤ t) (h1 : t < (s.f3.length : Int)) : premise_run_quiet.f s.f0.f0 s.f0.f1 s.f0.f2 s.f0.f3 s.f0.f4 s.f0.f5 s.f0.f6 s.f0.f7 s.f0.f8 s.f0.f9 s.f0.f10 s.f1 s.f2 s.f3 t = some (quietB s t) := by
  unfold premise_run_quiet.f quietB tkV
  rw [if_pos h0, if_pos h1]
  by_cases h : ((rd_T44 s.f3 t).f3.length : Int) = 0
  · rw [if_pos h, decide_eq_true h, Bool.true_and]
    rfl
  · rw [if_neg h, decide_eq_false h, Bool.false_and]
theorem swift_l0 (s : SC) (t i : Int) (X : List Int) (hX : X.length ≤ 100) : ∀ (d k j : Nat), j + d = X.length → d + 3 ≤ k → premise_run_swift.l0 k t i X (X.length : Int) (j : Int) s.f0.f0 s.f0.f1 s.f0.f2 s.f0.f3 s.f0.f4 s.f0.f5 s.f0.f6 s.f0.f7 s.f0.f8 s.f0.f9 s.f0.f10 s.f1 s.f2 s.f3 = some ((X.drop j).all (swiftB s t i))
  | 0, k, j, h, hk => by
    obtain ⟨k, rfl, _⟩ := peel (show 0 + 1 ≤ k by omega)
    rw [premise_run_swift.l0, if_neg (by omega), List.drop_of_length_le (by omega)]
    rfl
  | d + 1, k, j, h, hk => by
    obtain ⟨k, rfl, hk'⟩ := peel (show d + 3 + 1 ≤ k by omega)
    have hj : j < X.length := by omega
    rw [premise_run_swift.l0, if_pos (by omega), if_pos (by omega), if_pos (by omega), sdelay_eq k (by omega), Option.bind_some, rd_at X j hj, w64_step (by omega), swift_l0 s t i X hX d k (j + 1) (by omega) hk', List.drop_eq_getElem_cons hj, List.all_cons]
    by_cases h1 : delayV s t i X[j] < 1
    · have hp : swiftB s t i X[j] = false := decide_eq_false (by omega)
      rw [if_pos h1, hp]
      rfl
    · by_cases h2 : delayV s t i X[j] > s.f0.f2
      · have hp : swiftB s t i X[j] = false := decide_eq_false (by omega)
        rw [if_neg h1, if_pos h2, hp]
        rfl
      · have hp : swiftB s t i X[j] = true := decide_eq_true (by omega)
        rw [if_neg h1, if_neg h2, hp, Bool.true_and]
theorem swift_eq (s : SC) (t i : Int) (X : List Int) (hX : X.length ≤ 100) (k : Nat) (hk : 200 ≤ k) : premise_run_swift.f k s.f0.f0 s.f0.f1 s.f0.f2 s.f0.f3 s.f0.f4 s.f0.f5 s.f0.f6 s.f0.f7 s.f0.f8 s.f0.f9 s.f0.f10 s.f1 s.f2 s.f3 t i X = some (X.all (swiftB s t i)) := by
  unfold premise_run_swift.f
  have := swift_l0 s t i X hX X.length k 0 (by omega) (by omega)
  rw [List.drop_zero] at this
  exact this
theorem steady_eq (s : SC) (t i : Int) (k : Nat) (hk : 1 ≤ k) : premise_run_steady.f k s.f0.f0 s.f0.f1 s.f0.f2 s.f0.f3 s.f0.f4 s.f0.f5 s.f0.f6 s.f0.f7 s.f0.f8 s.f0.f9 s.f0.f10 s.f1 s.f2 s.f3 t i = some (steadyB s t i) := by
  unfold premise_run_steady.f
  rw [sunits_eq k hk, Option.bind_some]
  by_cases h : unitsV s t i ≥ wrap64 (s.f0.f4 - s.f0.f5)
  · rw [if_pos h]
    congr 1
    show _ = decide _
    rw [decide_eq_decide]
    omega
  · rw [if_neg h]
    congr 1
    exact (decide_eq_false (by omega)).symm
theorem calm_l0 (s : SC) (t : Int) (Y : List Int) (hY : Y.length ≤ 100) (X : List Int) (hX : X.length ≤ 100) : ∀ (d k j : Nat), j + d = X.length → d + 300 ≤ k → premise_run_calm.l0 k t Y X (X.length : Int) (j : Int) s.f0.f0 s.f0.f1 s.f0.f2 s.f0.f3 s.f0.f4 s.f0.f5 s.f0.f6 s.f0.f7 s.f0.f8 s.f0.f9 s.f0.f10 s.f1 s.f2 s.f3 = some ((X.drop j).all (fun i => steadyB s t i && Y.all (swiftB s t i)))
  | 0, k, j, h, hk => by
    obtain ⟨k, rfl, _⟩ := peel (show 0 + 1 ≤ k by omega)
    rw [premise_run_calm.l0, if_neg (by omega), List.drop_of_length_le (by omega)]
    rfl
  | d + 1, k, j, h, hk => by
    obtain ⟨k, rfl, hk'⟩ := peel (show d + 300 + 1 ≤ k by omega)
    have hj : j < X.length := by omega
    rw [premise_run_calm.l0, if_pos (by omega), if_pos (by omega), if_pos (by omega), steady_eq s t _ k (by omega), Option.bind_some, rd_at X j hj, swift_eq s t _ Y hY k (by omega), w64_step (by omega), calm_l0 s t Y hY X hX d k (j + 1) (by omega) hk', List.drop_eq_getElem_cons hj, List.all_cons]
    cases steadyB s t X[j] with
    | false => rfl
    | true =>
      rw [if_pos rfl, Option.bind_some]
      cases Y.all (swiftB s t X[j]) with
      | false => rfl
      | true => rfl
theorem calm_eq (s : SC) (t : Int) (hF : s.f1.length ≤ 100) (h0 : 0 ≤ t) (h1 : t < (s.f3.length : Int)) (k : Nat) (hk : 400 ≤ k) : premise_run_calm.f k s.f0.f0 s.f0.f1 s.f0.f2 s.f0.f3 s.f0.f4 s.f0.f5 s.f0.f6 s.f0.f7 s.f0.f8 s.f0.f9 s.f0.f10 s.f1 s.f2 s.f3 t = some (calmB s t) := by
  unfold premise_run_calm.f calmB
  rw [quiet_eq s t h0 h1, Option.bind_some]
  cases quietB s t with
  | false => rfl
  | true =>
    have hl := honV_len s
    have := calm_l0 s t (honV s) (by omega) (honV s) (by omega) (honV s).length k 0 (by omega) (by omega)
    rw [List.drop_zero] at this
    rw [if_pos rfl, shonest_eq k (by omega) s hF, Option.bind_some, Bool.true_and]
    exact this
theorem rcalm_l1 (s : SC) (t i : Int) (Y X : List Int) (hY : Y.length ≤ 100) (x53 : Int) (K : Nat) (R : Option Bool) (hR : ∀ k', K ≤ k' → r34_Calm.l0 k' t Y X (X.length : Int) (wrap64 (x53 + 1)) s.f0.f0 s.f0.f1 s.f0.f2 s.f0.f3 s.f0.f4 s.f0.f5 s.f0.f6 s.f0.f7 s.f0.f8 s.f0.f9 s.f0.f10 s.f1 s.f2 s.f3 s.f0.f0 s.f0.f1 s.f0.f2 s.f0.f3 s.f0.f4 s.f0.f5 s.f0.f6 s.f0.f7 s.f0.f8 s.f0.f9 s.f0.f10 = R) : ∀ (d k j : Nat), j + d = Y.length → d + 3 + K ≤ k → r34_Calm.l1 k t Y i X (X.length : Int) x53 Y (Y.length : Int) (j : Int) s.f0.f0 s.f0.f1 s.f0.f2 s.f0.f3 s.f0.f4 s.f0.f5 s.f0.f6 s.f0.f7 s.f0.f8 s.f0.f9 s.f0.f10 s.f1 s.f2 s.f3 s.f0.f0 s.f0.f1 s.f0.f2 s.f0.f3 s.f0.f4 s.f0.f5 s.f0.f6 s.f0.f7 s.f0.f8 s.f0.f9 s.f0.f10 = if (Y.drop j).all (swiftB s t i) = true then R else some false
  | 0, k, j, h, hk => by
    obtain ⟨k, rfl, hk'⟩ := peel (show K + 1 ≤ k by omega)
    rw [r34_Calm.l1, if_neg (by omega), List.drop_of_length_le (by omega), hR k hk']
    rfl
  | d + 1, k, j, h, hk => by
    obtain ⟨k, rfl, hk'⟩ := peel (show d + 3 + K + 1 ≤ k by omega)
    have hj : j < Y.length := by omega
    rw [r34_Calm.l1, if_pos (by omega), if_pos (by omega), if_pos (by omega), rdelay_eq k (by omega), Option.bind_some, rd_at Y j hj, w64_step (by omega), rcalm_l1 s t i Y X hY x53 K R hR d k (j + 1) (by omega) hk', List.drop_eq_getElem_cons hj, List.all_cons]
    by_cases h1 : delayV s t i Y[j] < 1
    · have hp : swiftB s t i Y[j] = false := decide_eq_false (by omega)
      rw [if_pos h1, hp]
      rfl
    · by_cases h2 : delayV s t i Y[j] > s.f0.f2
      · have hp : swiftB s t i Y[j] = false := decide_eq_false (by omega)
        rw [if_neg h1, if_pos h2, hp]
        rfl
      · have hp : swiftB s t i Y[j] = true := decide_eq_true (by omega)
        rw [if_neg h1, if_neg h2, hp, Bool.true_and]
theorem rcalm_j2t (s : SC) (t i : Int) (Y X : List Int) (x53 : Int) (k : Nat) (hk : 1 ≤ k) : r34_Calm.j2 k t Y i X (X.length : Int) x53 true s.f0.f0 s.f0.f1 s.f0.f2 s.f0.f3 s.f0.f4 s.f0.f5 s.f0.f6 s.f0.f7 s.f0.f8 s.f0.f9 s.f0.f10 s.f1 s.f2 s.f3 s.f0.f0 s.f0.f1 s.f0.f2 s.f0.f3 s.f0.f4 s.f0.f5 s.f0.f6 s.f0.f7 s.f0.f8 s.f0.f9 s.f0.f10 = some false := by
  obtain ⟨k, rfl, _⟩ := peel (show 0 + 1 ≤ k by omega)
  rw [r34_Calm.j2, if_pos rfl]
theorem rcalm_l0 (s : SC) (t : Int) (Y X : List Int) (hY : Y.length ≤ 100) (hX : X.length ≤ 100) : ∀ (d k j : Nat), j + d = X.length → 110 * d + 1 ≤ k → r34_Calm.l0 k t Y X (X.length : Int) (j : Int) s.f0.f0 s.f0.f1 s.f0.f2 s.f0.f3 s.f0.f4 s.f0.f5 s.f0.f6 s.f0.f7 s.f0.f8 s.f0.f9 s.f0.f10 s.f1 s.f2 s.f3 s.f0.f0 s.f0.f1 s.f0.f2 s.f0.f3 s.f0.f4 s.f0.f5 s.f0.f6 s.f0.f7 s.f0.f8 s.f0.f9 s.f0.f10 = some ((X.drop j).all (fun i => steadyB s t i && Y.all (swiftB s t i)))
  | 0, k, j, h, hk => by
    obtain ⟨k, rfl, _⟩ := peel (show 0 + 1 ≤ k by omega)
    rw [r34_Calm.l0, if_neg (by omega), List.drop_of_length_le (by omega)]
    rfl
  | d + 1, k, j, h, hk => by
    obtain ⟨k, rfl, hk'⟩ := peel (show 110 * d + 110 + 1 ≤ k by omega)
    have hj : j < X.length := by omega
    rw [r34_Calm.l0, if_pos (by omega), if_pos (by omega), if_pos (by omega), runits_eq k (by omega), Option.bind_some, rd_at X j hj, rcalm_j2t s t _ Y X _ k (by omega), List.drop_eq_getElem_cons hj, List.all_cons]
    by_cases h1 : unitsV s t X[j] < wrap64 (s.f0.f4 - s.f0.f5)
    · have hp : steadyB s t X[j] = false := decide_eq_false (by omega)
      rw [if_pos h1, hp]
      rfl
    · by_cases h2 : unitsV s t X[j] > wrap64 (s.f0.f4 + s.f0.f5)
      · have hp : steadyB s t X[j] = false := decide_eq_false (by omega)
        rw [if_neg h1, decide_eq_true h2, rcalm_j2t s t _ Y X _ k (by omega), hp]
        rfl
      · have hp : steadyB s t X[j] = true := decide_eq_true (by omega)
        rw [if_neg h1, decide_eq_false h2, hp, Bool.true_and]
        obtain ⟨k, rfl, hk2⟩ := peel (show 110 * d + 109 + 1 ≤ k by omega)
        have := rcalm_l1 s t X[j] Y X hY (j : Int) (110 * d + 1) _ (fun k' h' => by rw [w64_step (by omega)]; exact rcalm_l0 s t Y X hY hX d k' (j + 1) (by omega) h') Y.length k 0 (by omega) (by omega)
        rw [List.drop_zero] at this
        rw [r34_Calm.j2, if_neg (by decide)]
        refine (show _ = _ from this).trans ?_
        cases Y.all (swiftB s t X[j]) <;> rfl
theorem rcalm_eq (s : SC) (t : Int) (hF : s.f1.length ≤ 100) (k : Nat) (hk : 12000 ≤ k) : r34_Calm.f k s.f0.f0 s.f0.f1 s.f0.f2 s.f0.f3 s.f0.f4 s.f0.f5 s.f0.f6 s.f0.f7 s.f0.f8 s.f0.f9 s.f0.f10 s.f1 s.f2 s.f3 t = some (calmV s t) := by
  obtain ⟨k, rfl, hk'⟩ := peel (show 11999 + 1 ≤ k by omega)
  have hbad : r34_Calm.j0 (k + 1) t true s.f0.f0 s.f0.f1 s.f0.f2 s.f0.f3 s.f0.f4 s.f0.f5 s.f0.f6 s.f0.f7 s.f0.f8 s.f0.f9 s.f0.f10 s.f1 s.f2 s.f3 s.f0.f0 s.f0.f1 s.f0.f2 s.f0.f3 s.f0.f4 s.f0.f5 s.f0.f6 s.f0.f7 s.f0.f8 s.f0.f9 s.f0.f10 = some false := by rw [r34_Calm.j0, if_pos rfl]
  have hl := honV_len s
  have hgo := rcalm_l0 s t (honV s) (honV s) (by omega) (by omega) (honV s).length k 0 (by omega) (by omega)
  rw [List.drop_zero] at hgo
  unfold r34_Calm.f calmV
  rw [hbad]
  by_cases h0 : t < 0
  · rw [if_pos h0, isT_false (.inl h0)]
    rfl
  by_cases h1 : t ≥ (s.f3.length : Int)
  · rw [if_neg h0, if_pos h1, isT_false (.inr h1)]
    rfl
  rw [if_neg h0, if_neg h1, isT_true (by omega) (by omega), Bool.true_and, ref_plain_eq (k := k + 1) (hk := by omega), Option.bind_some]
  by_cases h2 : plainE s.f0.f0 s.f0.f1 s.f0.f2 s.f0.f3 s.f0.f4 s.f0.f5 s.f0.f6 s.f0.f7 s.f0.f8 s.f0.f9 s.f0.f10 = 0
  · rw [if_pos h2, decide_eq_true h2, Bool.true_and, if_pos (by omega), if_pos (by omega)]
    unfold calmB quietB tkV
    by_cases h3 : ((rd_T44 s.f3 t).f3.length : Int) > 0
    · rw [if_pos h3, decide_eq_false (show ¬ ((rd_T44 s.f3 t).f3.length : Int) = 0 by omega)]
      rfl
    · rw [if_neg h3, decide_eq_true (show ((rd_T44 s.f3 t).f3.length : Int) = 0 by omega), Bool.true_and]
      by_cases h4 : ((rd_T44 s.f3 t).f4.length : Int) > 0
      · rw [decide_eq_true h4, hbad, decide_eq_false (show ¬ ((rd_T44 s.f3 t).f4.length : Int) = 0 by omega)]
        rfl
      · rw [decide_eq_false h4, decide_eq_true (show ((rd_T44 s.f3 t).f4.length : Int) = 0 by omega), Bool.true_and, r34_Calm.j0, if_neg (by decide), rhonest_eq k (by omega) s hF, Option.bind_some]
        exact hgo
  · rw [if_neg h2, decide_eq_false h2]
    rfl
/-- The last tick that is not calm, of so many. -/
def lastV (s : SC) : Nat → Int
  | 0 => -1
  | n + 1 => if calmB s (n : Int) = true then lastV s n else (n : Int)
theorem plast_l0 (s : SC) (hF : s.f1.length ≤ 100) : ∀ (n k : Nat), n ≤ s.f3.length → n ≤ 100000 → n + 401 ≤ k → premise_run_last.l0 k ((n : Int) - 1) s.f0.f0 s.f0.f1 s.f0.f2 s.f0.f3 s.f0.f4 s.f0.f5 s.f0.f6 s.f0.f7 s.f0.f8 s.f0.f9 s.f0.f10 s.f1 s.f2 s.f3 = some (lastV s n)
  | 0, k, h, h', hk => by
    obtain ⟨k, rfl, _⟩ := peel (show 0 + 1 ≤ k by omega)
    rw [premise_run_last.l0, if_neg (by omega)]
    rfl
  | n + 1, k, h, h', hk => by
    obtain ⟨k, rfl, hk'⟩ := peel (show n + 401 + 1 ≤ k by omega)
    have e : (((n + 1 : Nat) : Int) - 1) = (n : Int) := by omega
    have e2 : wrap64 ((n : Int) - 1) = (n : Int) - 1 := by unfold wrap64; omega
    rw [e, premise_run_last.l0, if_pos (by omega), calm_eq s _ hF (by omega) (by omega) k (by omega), Option.bind_some, e2, plast_l0 s hF n k (by omega) (by omega) hk', lastV]
    split <;> rfl
theorem prun_last_eq (s : SC) (hs : Few 2900 s) (k : Nat) (hk : 3400 ≤ k) : premise_run_last.f k s.f0.f0 s.f0.f1 s.f0.f2 s.f0.f3 s.f0.f4 s.f0.f5 s.f0.f6 s.f0.f7 s.f0.f8 s.f0.f9 s.f0.f10 s.f1 s.f2 s.f3 = some (lastV s s.f3.length) := by
  have := hs.tk
  unfold premise_run_last.f
  rw [show wrap64 ((s.f3.length : Int) - 1) = (s.f3.length : Int) - 1 by unfold wrap64; omega]
  exact plast_l0 s hs.fa _ k (Nat.le_refl _) (by omega) (by omega)
def lastE (s : SC) : Int := if rightV s = 0 then lastV s s.f3.length else -1
theorem plast_eq (s : SC) (hs : Few 2900 s) (k : Nat) (hk : 3400 ≤ k) : premise_Last.f k s.f0.f0 s.f0.f1 s.f0.f2 s.f0.f3 s.f0.f4 s.f0.f5 s.f0.f6 s.f0.f7 s.f0.f8 s.f0.f9 s.f0.f10 s.f1 s.f2 s.f3 = some (lastE s) := by
  unfold premise_Last.f lastE
  rw [sright_eq k (by omega) s hs, Option.bind_some, prun_last_eq s hs k hk]
  split <;> rfl
theorem calmV_in {s : SC} {t : Int} (hr : rightV s = 0) (h0 : 0 ≤ t) (h1 : t < (s.f3.length : Int)) : calmV s t = calmB s t := by
  unfold calmV
  rw [isT_true h0 h1, decide_eq_true (right_plain (right_zero hr).1), Bool.true_and, Bool.true_and]
theorem rlast_l0 (B : Nat) (hB : 12000 ≤ B) (s : SC) (hF : s.f1.length ≤ 100) (hr : rightV s = 0) (hT : s.f3.length ≤ 100000) : ∀ (d k j : Nat), j + d = s.f3.length → d + (B + 1) ≤ k → r34_Last.l0 k (lastV s j) (j : Int) s.f0.f0 s.f0.f1 s.f0.f2 s.f0.f3 s.f0.f4 s.f0.f5 s.f0.f6 s.f0.f7 s.f0.f8 s.f0.f9 s.f0.f10 s.f1 s.f2 s.f3 = some (lastV s s.f3.length)
  | 0, k, j, h, hk => by
    obtain ⟨k, rfl, _⟩ := peel (show 0 + 1 ≤ k by omega)
    rw [r34_Last.l0, if_neg (by omega), show j = s.f3.length by omega]
  | d + 1, k, j, h, hk => by
    obtain ⟨k, rfl, hk'⟩ := peel (show d + (B + 1) + 1 ≤ k by omega)
    have ih := rlast_l0 B hB s hF hr hT d k (j + 1) (by omega) hk'
    rw [lastV] at ih
    rw [r34_Last.l0, if_pos (by omega), rcalm_eq s _ hF k (by omega), Option.bind_some, calmV_in hr (by omega) (by omega), w64_step (by omega)]
    by_cases h : calmB s (j : Int) = true
    · rw [if_pos h]
      rw [if_pos h] at ih
      exact ih
    · rw [if_neg h]
      rw [if_neg h] at ih
      exact ih
theorem rlast_eq (s : SC) (hs : Few 2900 s) (k : Nat) (hk : 15000 ≤ k) : r34_Last.f k s.f0.f0 s.f0.f1 s.f0.f2 s.f0.f3 s.f0.f4 s.f0.f5 s.f0.f6 s.f0.f7 s.f0.f8 s.f0.f9 s.f0.f10 s.f1 s.f2 s.f3 = some (lastE s) := by
  have := hs.tk
  unfold r34_Last.f lastE
  rw [rright_eq k (by omega) s hs, Option.bind_some]
  by_cases hr : rightV s = 0
  · rw [if_pos hr, if_pos hr]
    exact rlast_l0 12000 (by omega) s hs.fa hr (by omega) s.f3.length k 0 (by omega) (by omega)
  · rw [if_neg hr, if_neg hr]
def settledV (s : SC) : Int := if rightV s = 0 then wrap64 (lastV s s.f3.length + settleV s.f0.f1 s.f0.f2 s.f0.f3) else 0
def allV (s : SC) : Int := if rightV s = 0 then wrap64 (lastV s s.f3.length + (settleV s.f0.f1 s.f0.f2 s.f0.f3 + 4 * s.f0.f3)) else 0
theorem psettled_eq (s : SC) (hs : Few 2900 s) (k : Nat) (hk : 3400 ≤ k) : premise_Settled.f k s.f0.f0 s.f0.f1 s.f0.f2 s.f0.f3 s.f0.f4 s.f0.f5 s.f0.f6 s.f0.f7 s.f0.f8 s.f0.f9 s.f0.f10 s.f1 s.f2 s.f3 = some (settledV s) := by
  unfold premise_Settled.f settledV
  rw [sright_eq k (by omega) s hs, Option.bind_some]
  by_cases hr : rightV s = 0
  · rw [if_pos hr, if_pos hr, prun_last_eq s hs k hk, Option.bind_some, settle_eq (k := k) (hk := by omega), if_pos (right_plain (right_zero hr).1)]
    rfl
  · rw [if_neg hr, if_neg hr]
theorem pall_eq (s : SC) (hs : Few 2900 s) (k : Nat) (hk : 3400 ≤ k) : premise_All.f k s.f0.f0 s.f0.f1 s.f0.f2 s.f0.f3 s.f0.f4 s.f0.f5 s.f0.f6 s.f0.f7 s.f0.f8 s.f0.f9 s.f0.f10 s.f1 s.f2 s.f3 = some (allV s) := by
  unfold premise_All.f allV
  rw [sright_eq k (by omega) s hs, Option.bind_some]
  by_cases hr : rightV s = 0
  · rw [if_pos hr, if_pos hr, prun_last_eq s hs k hk, Option.bind_some, all_eq (k := k) (hk := by omega), if_pos (right_plain (right_zero hr).1)]
    rfl
  · rw [if_neg hr, if_neg hr]
theorem rsettled_eq (s : SC) (hs : Few 2900 s) (k : Nat) (hk : 15000 ≤ k) : r34_Settled.f k s.f0.f0 s.f0.f1 s.f0.f2 s.f0.f3 s.f0.f4 s.f0.f5 s.f0.f6 s.f0.f7 s.f0.f8 s.f0.f9 s.f0.f10 s.f1 s.f2 s.f3 = some (settledV s) := by
  unfold r34_Settled.f settledV
  rw [rright_eq k (by omega) s hs, Option.bind_some]
  by_cases hr : rightV s = 0
  · rw [if_pos hr, if_pos hr, rlast_eq s hs k hk, Option.bind_some, ref_settle_eq (k := k) (hk := by omega), if_pos (right_plain (right_zero hr).1)]
    unfold lastE
    rw [if_pos hr]
    rfl
  · rw [if_neg hr, if_neg hr]
theorem rall_eq (s : SC) (hs : Few 2900 s) (k : Nat) (hk : 15000 ≤ k) : r34_All.f k s.f0.f0 s.f0.f1 s.f0.f2 s.f0.f3 s.f0.f4 s.f0.f5 s.f0.f6 s.f0.f7 s.f0.f8 s.f0.f9 s.f0.f10 s.f1 s.f2 s.f3 = some (allV s) := by
  unfold r34_All.f allV
  rw [rright_eq k (by omega) s hs, Option.bind_some]
  by_cases hr : rightV s = 0
  · rw [if_pos hr, if_pos hr, rlast_eq s hs k hk, Option.bind_some, ref_all_eq (k := k) (hk := by omega), if_pos (right_plain (right_zero hr).1)]
    unfold lastE
    rw [if_pos hr]
    rfl
  · rw [if_neg hr, if_neg hr]
end Go.Proofs.Ythdoghhmooodjaa.Facts
