import Derived.Test.YthdoghhmooodjaaZScriptHonestGn0
import Derived.Test.YthdoghhmooodjaaZScriptHonestGn14
import Derived.Test.YthdoghhmooodjaaZScriptHonestGn16
import Derived.Test.YthdoghhmooodjaaZScriptHonestGn20
import Derived.Test.YthdoghhmooodjaaZScriptHonestGn21
import Derived.Test.YthdoghhmooodjaaZScriptHonestGn22
import Derived.Test.YthdoghhmooodjaaZScriptHonestGn1
import Derived.Test.YthdoghhmooodjaaZScriptHonestGn63
import Derived.Test.YthdoghhmooodjaaZScriptHonestGn64
import Derived.Test.YthdoghhmooodjaaZScriptHonestScriptMore
namespace Go.Proofs.Ythdoghhmooodjaa.Facts
open Go.RowKit Go.Proofs.Ythdoghhmooodjaa.Gn Go.Proofs.YthdoghhmooodjaaW.PrintWords Go.Proofs.YthdoghhmooodjaaW.PrintLast
set_option linter.unusedVariables false
set_option linter.unusedSimpArgs false
theorem known33_at : l33_known.f 60 = some true := by decide +kernel
theorem known33 (k : Nat) (hk : 60 ≤ k) : l33_known.f k = some true := leo_up l33_known.mono hk known33_at
theorem isV_pos {N n : Int} (h : isV N n = true) : 0 ≤ n ∧ n < clV N := by
  have := Bool.and_eq_true_iff.1 (show (decide (0 ≤ n) && decide (n < clV N)) = true from h)
  exact ⟨of_decide_eq_true this.1, of_decide_eq_true this.2⟩
theorem sflt_eq (k : Nat) (s : SC) (n : Int) (hF : s.f1.length ≤ 1000) (hk : s.f1.length + 1 ≤ k) : script_Faulty.f k s.f0.f0 s.f0.f1 s.f0.f2 s.f0.f3 s.f0.f4 s.f0.f5 s.f0.f6 s.f0.f7 s.f0.f8 s.f0.f9 s.f0.f10 s.f1 s.f2 s.f3 n = some (s.f1.contains n) := by
  unfold script_Faulty.f
  rw [contains_eq _ _ (by omega) k hk]
  rfl
/-- The nodes that are not faulty, from one on. -/
def honF (F : List Int) : Nat → Nat → List Int
  | 0, _ => []
  | d + 1, i => if F.contains (i : Int) = true then honF F d (i + 1) else (i : Int) :: honF F d (i + 1)
def honV (s : SC) : List Int := honF s.f1 (clV s.f0.f0).toNat 0
theorem honF_len (F : List Int) : ∀ d i, (honF F d i).length ≤ d
  | 0, _ => Nat.le_refl _
  | d + 1, i => by
    unfold honF
    have := honF_len F d (i + 1)
    split
    · omega
    · rw [List.length_cons]; omega
theorem honV_len (s : SC) : (honV s).length ≤ 13 := by
  have h1 := honF_len s.f1 (clV s.f0.f0).toNat 0
  have h2 := clV_bd s.f0.f0
  unfold honV
  omega
theorem shonest_l0 (s : SC) (hF : s.f1.length ≤ 100) (n : Nat) (hn : n ≤ 13) : ∀ (d k i : Nat) (acc : List Int), i + d = n → d + 102 ≤ k → acc.length ≤ i → script_Honest.l0 k acc (n : Int) (i : Int) s.f0.f0 s.f0.f1 s.f0.f2 s.f0.f3 s.f0.f4 s.f0.f5 s.f0.f6 s.f0.f7 s.f0.f8 s.f0.f9 s.f0.f10 s.f1 s.f2 s.f3 = some (acc ++ honF s.f1 d i)
  | 0, k, i, acc, h, hk, ha => by
    obtain ⟨k, rfl, _⟩ := peel (show 0 + 1 ≤ k by omega)
    rw [script_Honest.l0, if_neg (by omega), honF, List.append_nil]
  | d + 1, k, i, acc, h, hk, ha => by
    obtain ⟨k, rfl, hk'⟩ := peel (show d + 102 + 1 ≤ k by omega)
    rw [script_Honest.l0, if_pos (by omega), sflt_eq k s _ (by omega) (by omega), Option.bind_some, w64_step (by omega), honF]
    cases hc : s.f1.contains (i : Int) with
    | true => rw [if_pos rfl, if_pos rfl, shonest_l0 s hF n hn d k (i + 1) acc (by omega) hk' (by omega)]
    | false => rw [if_neg (show ¬ (false = true) by decide), if_pos (show acc.length < 17592186044416 by omega), if_neg (show ¬ (false = true) by decide), shonest_l0 s hF n hn d k (i + 1) _ (by omega) hk' (by simp; omega), List.append_assoc]; rfl
theorem shonest_eq (k : Nat) (hk : 200 ≤ k) (s : SC) (hF : s.f1.length ≤ 100) : script_Honest.f k s.f0.f0 s.f0.f1 s.f0.f2 s.f0.f3 s.f0.f4 s.f0.f5 s.f0.f6 s.f0.f7 s.f0.f8 s.f0.f9 s.f0.f10 s.f1 s.f2 s.f3 = some (honV s) := by
  have hc := clV_bd s.f0.f0
  unfold script_Honest.f honV
  rw [snodes_eq k (by omega), Option.bind_some]
  have := shonest_l0 s hF (clV s.f0.f0).toNat (by omega) (clV s.f0.f0).toNat k 0 [] (by omega) (by omega) (by simp)
  rw [Int.toNat_of_nonneg hc.1] at this
  exact this
end Go.Proofs.Ythdoghhmooodjaa.Facts
