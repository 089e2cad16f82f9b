import Derived.Test.YthdoghhmooodjaaZScriptReadsGn2
import Derived.Test.YthdoghhmooodjaaZScriptReadsGn10
import Derived.Test.YthdoghhmooodjaaZScriptReadsGn14
import Derived.Test.YthdoghhmooodjaaZScriptReadsGn16
import Derived.Test.YthdoghhmooodjaaZScriptReadsGn0
import Derived.Test.YthdoghhmooodjaaZScriptReadsGn1
import Derived.Test.YthdoghhmooodjaaZScriptReadsGn29
import Derived.Test.YthdoghhmooodjaaZScriptReadsGn30
import Derived.Test.YthdoghhmooodjaaZScriptReadsScriptFacts
namespace Go.Proofs.Ythdoghhmooodjaa.Facts
open Go.RowKit Go.Proofs.Ythdoghhmooodjaa.Gn Go.Proofs.YthdoghhmooodjaaW.PrintWords Go.Proofs.YthdoghhmooodjaaW.PrintLast
set_option linter.unusedVariables false
set_option linter.unusedSimpArgs false
/-- A script that is short enough. -/
structure Few (n : Nat) (s : SC) : Prop where
  tk : s.f3.length ≤ n
  tb : s.f0.f10.length ≤ 100
  fa : s.f1.length ≤ 100
  im : s.f2.length ≤ 100
  each : ∀ t ∈ s.f3, Tiny t
theorem few_l2 (s : SC) (i : Int) (X : List BU) (hX : X.length ≤ 1000000) (K : Nat) (R : Option Bool) (hR : ∀ k', K ≤ k' → r33_Few.l1 k' (wrap64 (i + 1)) s.f0.f0 s.f0.f1 s.f0.f2 s.f0.f3 s.f0.f4 s.f0.f5 s.f0.f6 s.f0.f7 s.f0.f8 s.f0.f9 s.f0.f10 s.f1 s.f2 s.f3 = R) : ∀ (d k j : Nat), j + d = X.length → d + 1 + K ≤ k → r33_Few.l2 k i X (X.length : Int) (j : Int) s.f0.f0 s.f0.f1 s.f0.f2 s.f0.f3 s.f0.f4 s.f0.f5 s.f0.f6 s.f0.f7 s.f0.f8 s.f0.f9 s.f0.f10 s.f1 s.f2 s.f3 = (if (X.drop j).all (fun x => decide ((x.f1.size : Int) ≤ 16000)) = true then R else some false)
  | 0, k, j, h, hk => by
    obtain ⟨k, rfl, hk'⟩ := peel (show K + 1 ≤ k by omega)
    rw [r33_Few.l2, if_neg (by omega), List.drop_of_length_le (by omega)]
    rw [hR k hk']
    rfl
  | d + 1, k, j, h, hk => by
    obtain ⟨k, rfl, hk'⟩ := peel (show d + 1 + K + 1 ≤ k by omega)
    have hj : j < X.length := by omega
    have ih := few_l2 s i X hX K R hR d k (j + 1) (by omega) (by omega)
    rw [r33_Few.l2, if_pos (by omega), if_pos (by omega), if_pos (by omega), rd_burst X j hj, w64_step (by omega), List.drop_eq_getElem_cons hj, List.all_cons]
    by_cases hb : ((X[j].f1).size : Int) > 16000
    · have hp : decide ((X[j].f1.size : Int) ≤ 16000) = false := decide_eq_false (by omega)
      rw [if_pos hb, hp]
      rfl
    · have hp : decide ((X[j].f1.size : Int) ≤ 16000) = true := decide_eq_true (by omega)
      rw [if_neg hb, ih, hp, Bool.true_and]
theorem few_l1 (s : SC) (hT : s.f3.length ≤ 100000) : ∀ (d i : Nat), i + d = s.f3.length → ∃ b, (∀ k, 104 * d + 1 ≤ k → r33_Few.l1 k (i : Int) s.f0.f0 s.f0.f1 s.f0.f2 s.f0.f3 s.f0.f4 s.f0.f5 s.f0.f6 s.f0.f7 s.f0.f8 s.f0.f9 s.f0.f10 s.f1 s.f2 s.f3 = some b) ∧ (b = true → ∀ t ∈ s.f3.drop i, Tiny t)
  | 0, i, h => by
    refine ⟨true, fun k hk => ?_, fun _ t ht => ?_⟩
    · obtain ⟨k, rfl, _⟩ := peel (show 0 + 1 ≤ k by omega)
      rw [r33_Few.l1, if_neg (by omega)]
    · rw [List.drop_of_length_le (by omega)] at ht
      cases ht
  | d + 1, i, h => by
    have hj : i < s.f3.length := by omega
    have hbad : ∀ k x, 1 ≤ k → r33_Few.j3 k x true s.f0.f0 s.f0.f1 s.f0.f2 s.f0.f3 s.f0.f4 s.f0.f5 s.f0.f6 s.f0.f7 s.f0.f8 s.f0.f9 s.f0.f10 s.f1 s.f2 s.f3 s.f3[i].f0 s.f3[i].f1 s.f3[i].f2 s.f3[i].f3 s.f3[i].f4 s.f3[i].f5 = some false := fun k x hk => by
      obtain ⟨k, rfl, _⟩ := peel hk
      rw [r33_Few.j3, if_pos rfl]
    have hstep : ∀ k, 104 * (d + 1) + 1 ≤ k → ∃ k', k = k' + 1 ∧ 104 * d + 104 ≤ k' := fun k hk => ⟨k - 1, by omega, by omega⟩
    by_cases g0 : (s.f3[i].f0.length : Int) > 100
    · refine ⟨false, fun k hk => ?_, fun e => by cases e⟩
      obtain ⟨k, rfl, hk⟩ := hstep k hk
      rw [r33_Few.l1, if_pos (by omega), if_pos (by omega), rd_tick s.f3 i hj, if_pos g0, hbad k _ (by omega)]
    by_cases g1 : (s.f3[i].f1.length : Int) > 400
    · refine ⟨false, fun k hk => ?_, fun e => by cases e⟩
      obtain ⟨k, rfl, hk⟩ := hstep k hk
      rw [r33_Few.l1, if_pos (by omega), if_pos (by omega), rd_tick s.f3 i hj, if_neg g0, if_pos g1, hbad k _ (by omega)]
    by_cases g2 : (s.f3[i].f2.length : Int) > 100
    · refine ⟨false, fun k hk => ?_, fun e => by cases e⟩
      obtain ⟨k, rfl, hk⟩ := hstep k hk
      rw [r33_Few.l1, if_pos (by omega), if_pos (by omega), rd_tick s.f3 i hj, if_neg g0, if_neg g1, if_pos g2, hbad k _ (by omega)]
    by_cases g3 : (s.f3[i].f3.length : Int) > 100
    · refine ⟨false, fun k hk => ?_, fun e => by cases e⟩
      obtain ⟨k, rfl, hk⟩ := hstep k hk
      rw [r33_Few.l1, if_pos (by omega), if_pos (by omega), rd_tick s.f3 i hj, if_neg g0, if_neg g1, if_neg g2, if_pos g3, hbad k _ (by omega)]
    by_cases g4 : (s.f3[i].f4.length : Int) > 100
    · refine ⟨false, fun k hk => ?_, fun e => by cases e⟩
      obtain ⟨k, rfl, hk⟩ := hstep k hk
      rw [r33_Few.l1, if_pos (by omega), if_pos (by omega), rd_tick s.f3 i hj, if_neg g0, if_neg g1, if_neg g2, if_neg g3, if_pos g4, hbad k _ (by omega)]
    by_cases g5 : (s.f3[i].f5.length : Int) > 100
    · refine ⟨false, fun k hk => ?_, fun e => by cases e⟩
      obtain ⟨k, rfl, hk⟩ := hstep k hk
      rw [r33_Few.l1, if_pos (by omega), if_pos (by omega), rd_tick s.f3 i hj, if_neg g0, if_neg g1, if_neg g2, if_neg g3, if_neg g4, decide_eq_true g5, hbad k _ (by omega)]
    obtain ⟨b, hb1, hb2⟩ := few_l1 s hT d (i + 1) (by omega)
    have hgo : ∀ k, 104 * (d + 1) + 1 ≤ k → r33_Few.l1 k (i : Int) s.f0.f0 s.f0.f1 s.f0.f2 s.f0.f3 s.f0.f4 s.f0.f5 s.f0.f6 s.f0.f7 s.f0.f8 s.f0.f9 s.f0.f10 s.f1 s.f2 s.f3 = if s.f3[i].f3.all (fun x => decide ((x.f1.size : Int) ≤ 16000)) = true then some b else some false := fun k hk => by
      obtain ⟨k, rfl, hk⟩ := hstep k hk
      rw [r33_Few.l1, if_pos (by omega), if_pos (by omega), rd_tick s.f3 i hj, if_neg g0, if_neg g1, if_neg g2, if_neg g3, if_neg g4, decide_eq_false g5]
      obtain ⟨k, rfl, hk2⟩ := peel (show 104 * d + 103 + 1 ≤ k by omega)
      rw [r33_Few.j3, if_neg (by decide)]
      have := few_l2 s i s.f3[i].f3 (by omega) (104 * d + 1) _ (fun k' hk' => by rw [w64_step (by omega)]; exact hb1 k' hk') s.f3[i].f3.length k 0 (by omega) (by omega)
      rw [List.drop_zero] at this
      exact this
    cases hq : s.f3[i].f3.all (fun x => decide ((x.f1.size : Int) ≤ 16000)) with
    | false => exact ⟨false, fun k hk => by rw [hgo k hk, hq]; rfl, fun e => by cases e⟩
    | true =>
      refine ⟨b, fun k hk => by rw [hgo k hk, hq]; rfl, fun e t hm => ?_⟩
      rw [List.drop_eq_getElem_cons hj] at hm
      rcases List.mem_cons.1 hm with e' | e'
      · rw [e']; exact ⟨by omega, by omega, by omega, by omega, by omega, by omega⟩
      · exact hb2 e t e'
theorem few_l0 (s : SC) (hT : s.f3.length ≤ 100000) (hI : s.f2.length ≤ 100000) : ∀ (d k j : Nat), j + d = s.f2.length → d + 1 + (104 * s.f3.length + 1) ≤ k → ∃ b, r33_Few.l0 k (j : Int) s.f0.f0 s.f0.f1 s.f0.f2 s.f0.f3 s.f0.f4 s.f0.f5 s.f0.f6 s.f0.f7 s.f0.f8 s.f0.f9 s.f0.f10 s.f1 s.f2 s.f3 = some b ∧ (b = true → ∀ t ∈ s.f3, Tiny t)
  | 0, k, j, h, hk => by
    obtain ⟨k, rfl, hk'⟩ := peel (show 104 * s.f3.length + 1 + 1 ≤ k by omega)
    obtain ⟨b, h1, h2⟩ := few_l1 s hT s.f3.length 0 (by omega)
    exact ⟨b, by rw [r33_Few.l0, if_neg (by omega)]; exact h1 k (by omega), h2⟩
  | d + 1, k, j, h, hk => by
    obtain ⟨k, rfl, hk'⟩ := peel (show d + 1 + (104 * s.f3.length + 1) + 1 ≤ k by omega)
    rw [r33_Few.l0, if_pos (by omega), if_pos (by omega)]
    by_cases g : ((rdOf ByteArray.empty s.f2 (j : Int)).size : Int) > 16000
    · exact ⟨false, by rw [if_pos g], fun e => by cases e⟩
    · rw [if_neg g, w64_step (by omega)]
      exact few_l0 s hT hI d k (j + 1) (by omega) hk'
/-- Whether a script is short enough is told; and if it is, it is. -/
theorem few_eq (s : SC) (n : Nat) (hn : n ≤ 2900) (k : Nat) (hk : 400000 ≤ k) : ∃ b, r33_Few.f k s.f0.f0 s.f0.f1 s.f0.f2 s.f0.f3 s.f0.f4 s.f0.f5 s.f0.f6 s.f0.f7 s.f0.f8 s.f0.f9 s.f0.f10 s.f1 s.f2 s.f3 (n : Int) = some b ∧ (b = true → Few n s) := by
  have hbad : r33_Few.j0 k true s.f0.f0 s.f0.f1 s.f0.f2 s.f0.f3 s.f0.f4 s.f0.f5 s.f0.f6 s.f0.f7 s.f0.f8 s.f0.f9 s.f0.f10 s.f1 s.f2 s.f3 = some false := by
    obtain ⟨k, rfl, _⟩ := peel (show 0 + 1 ≤ k by omega)
    rw [r33_Few.j0, if_pos rfl]
  unfold r33_Few.f
  by_cases g0 : (s.f3.length : Int) > n
  · exact ⟨false, by rw [if_pos g0, hbad], fun e => by cases e⟩
  by_cases g1 : (s.f0.f10.length : Int) > 100
  · exact ⟨false, by rw [if_neg g0, if_pos g1, hbad], fun e => by cases e⟩
  by_cases g2 : (s.f1.length : Int) > 100
  · exact ⟨false, by rw [if_neg g0, if_neg g1, if_pos g2, hbad], fun e => by cases e⟩
  by_cases g3 : (s.f2.length : Int) > 100
  · exact ⟨false, by rw [if_neg g0, if_neg g1, if_neg g2, decide_eq_true g3, hbad], fun e => by cases e⟩
  rw [if_neg g0, if_neg g1, if_neg g2, decide_eq_false g3]
  obtain ⟨k, rfl, hk'⟩ := peel (show 399999 + 1 ≤ k by omega)
  rw [r33_Few.j0, if_neg (by decide)]
  obtain ⟨b, h1, h2⟩ := few_l0 s (by omega) (by omega) s.f2.length k 0 (by omega) (by omega)
  exact ⟨b, h1, fun e => ⟨by omega, by omega, by omega, by omega, h2 e⟩⟩
end Go.Proofs.Ythdoghhmooodjaa.Facts
