import Derived.Test.YtbedfoeifaegmaaZLogFadesStmtLogFades
import Derived.Test.YtbedfoeifaegmaaZLogFadesWhoFacts
namespace Go.Proofs.Ytbedfoeifaegmaa.Pure
open Go.RowKit Go.Proofs.Ytbedfoeifaegmaa.Gn Go.Proofs.YtbedfoeifaegmaaW.PrintWords Go.Proofs.YtbedfoeifaegmaaW.PrintLast Go.Proofs.Ytbedfoeifaegmaa.Facts Go.Proofs.Ytbedfoeifaegmaa.Opens
/-- Whether the one note counts. -/
theorem fades_one (node at_ now width : Int) (hn : (Lit.int .i64 node).wf = true) : log_Of.f [(⟨node, at_⟩ : EN)] node now width = some (if aliveB now width ⟨node, at_⟩ = true then 1 else 0) := by
  rw [of_eq [(⟨node, at_⟩ : EN)] (by simp) (fun e he => by rw [List.mem_singleton.1 he]; exact hn) node now width hn]
  unfold ofN prg
  cases h : aliveB now width ⟨node, at_⟩ with
  | true => simp [h]
  | false => simp [h]
theorem fades_end (k : Nat) (hk : 40 ≤ k) (node now width : Int) (hn : (Lit.int .i64 node).wf = true) : ((log_Of.f (([(⟨node, now⟩ : S43)] : List (S43))) node now width).bind fun t418 => (if now < 1152921504606846976 then (l06_LogFades.j2 k node now width t418 0 (decide (now > (-1152921504606846976)))) else (l06_LogFades.j2 k node now width t418 0 false))) = some true := by
  obtain ⟨k, rfl⟩ : ∃ n, k = n + 1 := ⟨k - 1, by omega⟩
  have hkn := known06 k (by omega)
  have ha : aliveB now width ⟨node, now⟩ = decide (0 < width) := by
    have : sgn now now = 0 := by unfold sgn; omega
    unfold aliveB
    rw [this]
    simp
  have hone : ∀ at_ : Int, aliveB now width ⟨node, at_⟩ = false → log_Of.f [(⟨node, at_⟩ : EN)] node now width = some 0 := fun at_ h => by
    rw [fades_one _ _ _ _ hn, h]
    rfl
  have hb : now < 1152921504606846976 → now > -1152921504606846976 → aliveB now width ⟨node, wrap64 (now + 1)⟩ = false := fun h1 h2 => by
    have : sgn now (wrap64 (now + 1)) < 0 := by unfold wrap64 sgn; omega
    unfold aliveB
    rw [decide_eq_false (by show ¬ 0 ≤ sgn now (wrap64 (now + 1)); omega)]
    rfl
  by_cases hw : 0 < width
  · have h0 : log_Of.f [(⟨node, now⟩ : EN)] node now width = some 1 := by
      rw [fades_one _ _ _ _ hn, ha, decide_eq_true hw]
      rfl
    rw [h0, Option.bind_some]
    by_cases h1 : now < 1152921504606846976
    · rw [if_pos h1]
      by_cases h2 : now > -1152921504606846976
      · rw [decide_eq_true h2, l06_LogFades.j2, if_pos rfl, hone _ (hb h1 h2), Option.bind_some, if_pos rfl, if_pos hw, if_pos rfl, hkn]
        rfl
      · rw [decide_eq_false h2, l06_LogFades.j2, if_neg (by decide), if_pos rfl, if_pos hw, if_pos rfl, hkn]
        rfl
    · rw [if_neg h1, l06_LogFades.j2, if_neg (by decide), if_pos rfl, if_pos hw, if_pos rfl, hkn]
      rfl
  · rw [hone now (by rw [ha]; exact decide_eq_false hw), Option.bind_some]
    by_cases h1 : now < 1152921504606846976
    · rw [if_pos h1]
      by_cases h2 : now > -1152921504606846976
      · rw [decide_eq_true h2, l06_LogFades.j2, if_pos rfl, hone _ (hb h1 h2), Option.bind_some, if_neg (by decide), if_neg hw, if_pos rfl, hkn]
        rfl
      · rw [decide_eq_false h2, l06_LogFades.j2, if_neg (by decide), if_neg (by decide), if_neg hw, if_pos rfl, hkn]
        rfl
    · rw [if_neg h1, l06_LogFades.j2, if_neg (by decide), if_neg (by decide), if_neg hw, if_pos rfl, hkn]
      rfl
theorem fades_l0 (node now width : Int) (w : List Int) (hl : w.length ≤ 1000) (hs : w.Pairwise (· < ·)) (hn : (Lit.int .i64 node).wf = true) : ∀ (d k j : Nat), j + d = max w.length 1 → 1 ≤ j → d + 41 ≤ k → l06_LogFades.l0 k node now width w (j : Int) = some true
  | 0, k, j, h, h1, hk => by
    obtain ⟨k, rfl, hk'⟩ := lpeel (show 40 + 1 ≤ k by omega)
    rw [l06_LogFades.l0, if_neg (by omega)]
    exact fades_end k hk' node now width hn
  | d + 1, k, j, h, h1, hk => by
    obtain ⟨k, rfl, hk'⟩ := lpeel hk
    have hj : j < w.length := by omega
    have e : wrap64 ((j : Int) - 1) = ((j - 1 : Nat) : Int) := by unfold wrap64; omega
    have hlt : w[j - 1] < w[j] := List.pairwise_iff_getElem.1 hs (j - 1) j (by omega) hj (by omega)
    rw [l06_LogFades.l0, if_pos (by omega), e, if_pos (by omega), if_pos (by omega), if_pos (by omega), lrd_at w j hj, lrd_at w (j - 1) (by omega), if_neg (by omega), lstep (by omega)]
    exact fades_l0 node now width w hl hs hn d k (j + 1) (by omega) (by omega) (by omega)
theorem LogFades : Gn.LogFades.Pure := by
  intro l node now width hl hn _ _
  have hE : WfE l := fun x hx => (hl.2 x hx).1
  refine ⟨2000, ?_⟩
  unfold l06_LogFades.f
  by_cases g : (l.length : Int) > 100
  · rw [if_pos g, known06 2000 (by decide)]; rfl
  have h1 := prg_len now width l
  have h2 := whoV_len now width l
  rw [if_neg g, purge_eq l (by omega), Option.bind_some, who_eq l (by omega) hE, Option.bind_some, purge_eq _ (by omega), Option.bind_some, prg_prg, same_eq _ (by omega) _ (by omega), Option.bind_some, if_pos rfl, count_eq l (by omega) hE, Option.bind_some, if_pos rfl, if_neg (by omega), decide_eq_false (by omega), l06_LogFades.j0, if_neg (by decide)]
  exact fades_l0 node now width (whoV now width l) (by omega) (sortU_sorted _) hn (max (whoV now width l).length 1 - 1) 1999 1 (by omega) (by omega) (by omega)
end Go.Proofs.Ytbedfoeifaegmaa.Pure
