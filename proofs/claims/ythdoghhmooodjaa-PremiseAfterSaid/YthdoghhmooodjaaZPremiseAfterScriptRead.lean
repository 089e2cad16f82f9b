import Derived.Test.YthdoghhmooodjaaZPremiseAfterGn0
import Derived.Test.YthdoghhmooodjaaZPremiseAfterGn14
import Derived.Test.YthdoghhmooodjaaZPremiseAfterGn16
import Derived.Test.YthdoghhmooodjaaZPremiseAfterGn1
import Derived.Test.YthdoghhmooodjaaZPremiseAfterGn64
import Derived.Test.YthdoghhmooodjaaZPremiseAfterGn63
import Derived.Test.YthdoghhmooodjaaZPremiseAfterGn27
import Derived.Test.YthdoghhmooodjaaZPremiseAfterScriptMore
namespace Go.Proofs.Ythdoghhmooodjaa.Facts
open Go.RowKit Go.Proofs.Ythdoghhmooodjaa.Gn Go.Proofs.YthdoghhmooodjaaW.PrintWords Go.Proofs.YthdoghhmooodjaaW.PrintLast
set_option linter.unusedVariables false
set_option linter.unusedSimpArgs false
/-- A tick of a script; one of nothing where there is none. -/
def tkV (s : SC) (t : Int) : TK := rd_T44 s.f3 t
def isT (s : SC) (t : Int) : Bool := decide (0 ≤ t) && decide (t < (s.f3.length : Int))
theorem isT_true {s : SC} {t : Int} (h0 : 0 ≤ t) (h1 : t < (s.f3.length : Int)) : isT s t = true := by unfold isT; rw [decide_eq_true h0, decide_eq_true h1]; rfl
theorem isT_false {s : SC} {t : Int} (h : t < 0 ∨ t ≥ (s.f3.length : Int)) : isT s t = false := by
  unfold isT
  rcases h with h | h
  · rw [decide_eq_false (show ¬ 0 ≤ t by omega)]; rfl
  · rw [decide_eq_false (show ¬ t < (s.f3.length : Int) by omega), Bool.and_false]
theorem isV_pos {N n : Int} (h : isV N n = true) : 0 ≤ n ∧ n < clV N := by
  have := Bool.and_eq_true_iff.1 (show (decide (0 ≤ n) && decide (n < clV N)) = true from h)
  exact ⟨of_decide_eq_true this.1, of_decide_eq_true this.2⟩
def lstV (l : List Int) (p usual : Int) : Int := if p < (l.length : Int) then rd l p else usual
/-- How many units a node's clock goes. -/
def unitsV (s : SC) (t n : Int) : Int := if (isT s t && isV s.f0.f0 n) = true then lstV (tkV s t).f0 n s.f0.f4 else 0
def delayV (s : SC) (t a b : Int) : Int := if (isT s t && (isV s.f0.f0 a && isV s.f0.f0 b)) = true then lstV (tkV s t).f1 (a * clV s.f0.f0 + b) s.f0.f2 else 0
theorem listed_eq (l : List Int) (p u : Int) (hp : 0 ≤ p) : script_listed_int.f l p u = some (lstV l p u) := by
  unfold script_listed_int.f lstV
  by_cases h : p < (l.length : Int)
  · rw [if_pos h, if_pos hp, if_pos h]
  · rw [if_neg h, if_neg h]
theorem sat_no (s : SC) (t : Int) (h : t < 0 ∨ t ≥ (s.f3.length : Int)) : script_at.f s.f0.f0 s.f0.f1 s.f0.f2 s.f0.f3 s.f0.f4 s.f0.f5 s.f0.f6 s.f0.f7 s.f0.f8 s.f0.f9 s.f0.f10 s.f1 s.f2 s.f3 t = some ([], [], [], [], [], [], false) := by
  unfold script_at.f
  by_cases h0 : t < 0
  · rw [if_pos h0]
  · rw [if_neg h0, if_pos (by omega)]
theorem sat_yes (s : SC) (t : Int) (h0 : 0 ≤ t) (h1 : t < (s.f3.length : Int)) : script_at.f s.f0.f0 s.f0.f1 s.f0.f2 s.f0.f3 s.f0.f4 s.f0.f5 s.f0.f6 s.f0.f7 s.f0.f8 s.f0.f9 s.f0.f10 s.f1 s.f2 s.f3 t = some ((tkV s t).f0, (tkV s t).f1, (tkV s t).f2, (tkV s t).f3, (tkV s t).f4, (tkV s t).f5, true) := by
  unfold script_at.f tkV
  rw [if_neg (by omega), if_neg (by omega), if_pos h0, if_pos h1]
theorem sunits_eq (k : Nat) (hk : 1 ≤ k) (s : SC) (t n : Int) : script_Units.f k s.f0.f0 s.f0.f1 s.f0.f2 s.f0.f3 s.f0.f4 s.f0.f5 s.f0.f6 s.f0.f7 s.f0.f8 s.f0.f9 s.f0.f10 s.f1 s.f2 s.f3 t n = some (unitsV s t n) := by
  unfold script_Units.f unitsV
  by_cases h : 0 ≤ t ∧ t < (s.f3.length : Int)
  · rw [sat_yes s t h.1 h.2, Option.bind_some, if_pos rfl, sis_eq k hk, Option.bind_some, isT_true h.1 h.2, Bool.true_and]
    cases hv : isV s.f0.f0 n with
    | false => rfl
    | true => rw [if_pos rfl, if_pos rfl, listed_eq _ _ _ (isV_pos hv).1]; rfl
  · rw [sat_no s t (by omega), Option.bind_some, isT_false (by omega)]
    rfl
theorem place_w {N a b : Int} (ha : isV N a = true) (hb : isV N b = true) : wrap64 (wrap64 (a * clV N) + b) = a * clV N + b ∧ 0 ≤ a * clV N + b := by
  have h1 := isV_pos ha
  have h2 := isV_pos hb
  have h3 := clV_bd N
  have h4 := mul_bd (x := a) (y := clV N) (a := 13) (b := 13) ⟨h1.1, by omega⟩ ⟨h3.1, h3.2⟩
  generalize a * clV N = q at h4 ⊢
  unfold wrap64
  omega
theorem sdelay_eq (k : Nat) (hk : 2 ≤ k) (s : SC) (t a b : Int) : script_Delay.f k s.f0.f0 s.f0.f1 s.f0.f2 s.f0.f3 s.f0.f4 s.f0.f5 s.f0.f6 s.f0.f7 s.f0.f8 s.f0.f9 s.f0.f10 s.f1 s.f2 s.f3 t a b = some (delayV s t a b) := by
  obtain ⟨k, rfl, hk'⟩ := peel (show 1 + 1 ≤ k by omega)
  unfold script_Delay.f delayV
  by_cases h : 0 ≤ t ∧ t < (s.f3.length : Int)
  · rw [sat_yes s t h.1 h.2, Option.bind_some, if_pos rfl, sis_eq (k + 1) (by omega), Option.bind_some, isT_true h.1 h.2, Bool.true_and]
    cases ha : isV s.f0.f0 a with
    | false => rw [if_neg (by decide), script_Delay.j0]; rfl
    | true =>
      rw [if_pos rfl, sis_eq (k + 1) (by omega), Option.bind_some, script_Delay.j0]
      cases hb : isV s.f0.f0 b with
      | false => rfl
      | true =>
        have hp := place_w ha hb
        rw [if_neg (by decide), snodes_eq k hk', Option.bind_some, hp.1, listed_eq _ _ _ hp.2]
        rfl
  · rw [sat_no s t (by omega), Option.bind_some, isT_false (by omega), script_Delay.j0]
    rfl
theorem sflt_eq (k : Nat) (s : SC) (n : Int) (hF : s.f1.length ≤ 1000) (hk : s.f1.length + 1 ≤ k) : script_Faulty.f k s.f0.f0 s.f0.f1 s.f0.f2 s.f0.f3 s.f0.f4 s.f0.f5 s.f0.f6 s.f0.f7 s.f0.f8 s.f0.f9 s.f0.f10 s.f1 s.f2 s.f3 n = some (s.f1.contains n) := by
  unfold script_Faulty.f
  rw [contains_eq _ _ (by omega) k hk]
  rfl
/-- The nodes that are not faulty, from one on. -/
def honF (F : List Int) : Nat → Nat → List Int
  | 0, _ => []
  | d + 1, i => if F.contains (i : Int) = true then honF F d (i + 1) else (i : Int) :: honF F d (i + 1)
def honV (s : SC) : List Int := honF s.f1 (clV s.f0.f0).toNat 0
theorem honF_len (F : List Int) : ∀ d i, (honF F d i).length ≤ d
  | 0, _ => Nat.le_refl _
  | d + 1, i => by
    unfold honF
    have := honF_len F d (i + 1)
    split
    · omega
    · rw [List.length_cons]; omega
theorem honV_len (s : SC) : (honV s).length ≤ 13 := by
  have h1 := honF_len s.f1 (clV s.f0.f0).toNat 0
  have h2 := clV_bd s.f0.f0
  unfold honV
  omega
theorem shonest_l0 (s : SC) (hF : s.f1.length ≤ 100) (n : Nat) (hn : n ≤ 13) : ∀ (d k i : Nat) (acc : List Int), i + d = n → d + 102 ≤ k → acc.length ≤ i → script_Honest.l0 k acc (n : Int) (i : Int) s.f0.f0 s.f0.f1 s.f0.f2 s.f0.f3 s.f0.f4 s.f0.f5 s.f0.f6 s.f0.f7 s.f0.f8 s.f0.f9 s.f0.f10 s.f1 s.f2 s.f3 = some (acc ++ honF s.f1 d i)
  | 0, k, i, acc, h, hk, ha => by
    obtain ⟨k, rfl, _⟩ := peel (show 0 + 1 ≤ k by omega)
    rw [script_Honest.l0, if_neg (by omega), honF, List.append_nil]
  | d + 1, k, i, acc, h, hk, ha => by
    obtain ⟨k, rfl, hk'⟩ := peel (show d + 102 + 1 ≤ k by omega)
    rw [script_Honest.l0, if_pos (by omega), sflt_eq k s _ (by omega) (by omega), Option.bind_some, w64_step (by omega), honF]
    cases hc : s.f1.contains (i : Int) with
    | true => rw [if_pos rfl, if_pos rfl, shonest_l0 s hF n hn d k (i + 1) acc (by omega) hk' (by omega)]
    | false => rw [if_neg (show ¬ (false = true) by decide), if_pos (show acc.length < 17592186044416 by omega), if_neg (show ¬ (false = true) by decide), shonest_l0 s hF n hn d k (i + 1) _ (by omega) hk' (by simp; omega), List.append_assoc]; rfl
theorem shonest_eq (k : Nat) (hk : 200 ≤ k) (s : SC) (hF : s.f1.length ≤ 100) : script_Honest.f k s.f0.f0 s.f0.f1 s.f0.f2 s.f0.f3 s.f0.f4 s.f0.f5 s.f0.f6 s.f0.f7 s.f0.f8 s.f0.f9 s.f0.f10 s.f1 s.f2 s.f3 = some (honV s) := by
  have hc := clV_bd s.f0.f0
  unfold script_Honest.f honV
  rw [snodes_eq k (by omega), Option.bind_some]
  have := shonest_l0 s hF (clV s.f0.f0).toNat (by omega) (clV s.f0.f0).toNat k 0 [] (by omega) (by omega) (by simp)
  rw [Int.toNat_of_nonneg hc.1] at this
  exact this
end Go.Proofs.Ythdoghhmooodjaa.Facts
