import Derived.Test.YthdoghhmooodjaaZScriptHonestStmtScriptHonest
import Derived.Test.YthdoghhmooodjaaZScriptHonestScriptCount
namespace Go.Proofs.Ythdoghhmooodjaa.Pure
open Go.RowKit Go.Proofs.Ythdoghhmooodjaa.Gn Go.Proofs.YthdoghhmooodjaaW.PrintWords Go.Proofs.YthdoghhmooodjaaW.PrintLast Go.Proofs.Ythdoghhmooodjaa.Facts Go.Proofs.Ythdoghhmooodjaa.Opens
theorem honest_l0 (s : SC) (hF : s.f1.length ≤ 100) (hN : 4 ≤ s.f0.f0 ∧ s.f0.f0 ≤ 13) : ∀ (d k j : Nat), j + d = (honV s).length → d + 500 ≤ k → l33_ScriptHonest.l0 k (honV s) (j : Int) s.f0.f0 s.f0.f1 s.f0.f2 s.f0.f3 s.f0.f4 s.f0.f5 s.f0.f6 s.f0.f7 s.f0.f8 s.f0.f9 s.f0.f10 s.f1 s.f2 s.f3 = some true
  | 0, k, j, h, hk => by
    obtain ⟨k, rfl, hk'⟩ := peel (show 499 + 1 ≤ k by omega)
    rw [l33_ScriptHonest.l0, if_neg (by omega), known33 k (by omega)]
    rfl
  | d + 1, k, j, h, hk => by
    obtain ⟨k, rfl, hk'⟩ := peel (show d + 500 + 1 ≤ k by omega)
    have hj : j < (honV s).length := by omega
    have hl := honV_len s
    have hm := honF_mem s.f1 _ 0 _ (show (honV s)[j] ∈ honF s.f1 (clV s.f0.f0).toNat 0 from List.getElem_mem hj)
    have hc : clV s.f0.f0 = s.f0.f0 := by unfold clV; omega
    rw [hc] at hm
    rw [l33_ScriptHonest.l0, if_pos (by omega), if_pos (by omega), sflt_eq k s _ (by omega) (by omega), Option.bind_some, rd_at (honV s) j hj, hm.2.2, if_neg (by decide), if_neg (by omega), if_neg (by omega), w64_step (by omega), honest_l0 s hF hN d k (j + 1) (by omega) hk']
    by_cases h0 : (j : Int) > 0
    · have hw : wrap64 ((j : Int) - 1) = ((j - 1 : Nat) : Int) := by unfold wrap64; omega
      have hup := List.pairwise_iff_getElem.1 (show (honV s).Pairwise (· < ·) from honF_up s.f1 _ 0) (j - 1) j (by omega) hj (by omega)
      rw [if_pos h0, hw, if_pos (by omega), if_pos (by omega), rd_at (honV s) (j - 1) (by omega), if_neg (by omega)]
    · rw [if_neg h0]
theorem ScriptHonest : Gn.ScriptHonest.Pure := by
  intro s _
  have hk := known33 400001 (by omega)
  have hj0 : l33_ScriptHonest.j0 400001 true s.f0.f0 s.f0.f1 s.f0.f2 s.f0.f3 s.f0.f4 s.f0.f5 s.f0.f6 s.f0.f7 s.f0.f8 s.f0.f9 s.f0.f10 s.f1 s.f2 s.f3 = some true := by
    rw [l33_ScriptHonest.j0, if_pos rfl, known33 400000 (by omega)]
    rfl
  obtain ⟨b, h1, h2⟩ := few_eq s 400 (by omega) 400001 (by omega)
  refine ⟨400001, ?_⟩
  unfold l33_ScriptHonest.f
  rw [show (400 : Int) = ((400 : Nat) : Int) from rfl, h1, Option.bind_some]
  cases b with
  | false => rw [if_neg (by decide), hj0]
  | true =>
    have hs := (h2 rfl).to (m := 2900) (by omega)
    have hF := hs.fa
    rw [if_pos rfl, sright_eq 400001 (by omega) s hs, Option.bind_some]
    by_cases hr : rightV s = 0
    · obtain ⟨hE, hflt, _, _⟩ := right_zero hr
      have hN := right_nodes hE
      have hc : clV s.f0.f0 = s.f0.f0 := by unfold clV; omega
      have hcnt := hon_cnt s.f1 (clV s.f0.f0).toNat 0
      have hf := flt_cnt (N := s.f0.f0) s.f1 s.f1.length 0 (by omega) hflt
      rw [List.take_zero, cnt_nil] at hf
      have hl : ((honV s).length : Int) + (s.f1.length : Int) = s.f0.f0 := by unfold honV; omega
      rw [hr, show ((0 : Int) != 0) = false from rfl, l33_ScriptHonest.j0, if_neg (by decide), shonest_eq 400000 (by omega) s hF, Option.bind_some, hl, if_pos (by unfold wrap64; omega)]
      exact honest_l0 s hF hN (honV s).length 400000 0 (by omega) (by have := honV_len s; omega)
    · rw [show (rightV s != 0) = true from bne_iff_ne.2 hr, hj0]
end Go.Proofs.Ythdoghhmooodjaa.Pure
