import Derived.Test.YtbedfoeifaegmaaZRateForgetsStmtRateForgets
import Derived.Test.YtbedfoeifaegmaaZRateForgetsRateFacts
namespace Go.Proofs.Ytbedfoeifaegmaa.Pure
open Go.RowKit Go.Proofs.Ytbedfoeifaegmaa.Gn Go.Proofs.YtbedfoeifaegmaaW.PrintWords Go.Proofs.YtbedfoeifaegmaaW.PrintLast Go.Proofs.Ytbedfoeifaegmaa.Facts Go.Proofs.Ytbedfoeifaegmaa.Opens
theorem RateForgets : Gn.RateForgets.Pure := by
  intro c n hc hn
  obtain ⟨hl, h1, h2, hL⟩ := hc
  have hw : WfE c.f0 := fun e he => (hl.2 e he).1
  refine ⟨2001, ?_⟩
  unfold l07_RateForgets.f
  by_cases g : (c.f0.length : Int) > 100
  · rw [if_pos g, known07 2001 (by omega)]
    rfl
  have hp := prg_len c.f1 c.f2 c.f0
  have ht := takeV_len c.f1 c.f2 c.f3 c.f0 n
  have he : takeV c.f1 c.f2 c.f3 (prg c.f1 c.f2 c.f0) n = takeV c.f1 c.f2 c.f3 c.f0 n := by
    unfold takeV
    rw [ofN_prg, prg_prg]
  rw [if_neg g, take_eq c.f0 (by omega) hw c.f1 c.f2 c.f3 n hL hn, Option.bind_some, rpurge_eq c.f0 (by omega) c.f1 c.f2 2001 (by omega), Option.bind_some, take_eq _ (by omega) (prg_wf hw) c.f1 c.f2 c.f3 n hL hn, Option.bind_some, he, same_eq _ (by omega) 2001 (by omega), Option.bind_some, if_pos rfl, bne_self_eq_false, l07_RateForgets.j0, if_neg (by decide)]
  have hlen : ((takeV c.f1 c.f2 c.f3 c.f0 n).1.length : Int) ≤ mx (c.f0.length : Int) 64 := by
    have h : (takeV c.f1 c.f2 c.f3 c.f0 n).1.length ≤ max c.f0.length 64 := by
      unfold takeV
      split
      · show (prg c.f1 c.f2 c.f0).length ≤ _
        omega
      · have := (addV_len (prg c.f1 c.f2 c.f0) ⟨n, c.f1 % 65536⟩).2
        show (addV (prg c.f1 c.f2 c.f0) ⟨n, c.f1 % 65536⟩).1.length ≤ _
        omega
    unfold mx
    split <;> omega
  by_cases h17 : (takeV c.f1 c.f2 c.f3 c.f0 n).2 = 17
  · rw [if_pos h17, if_pos hlen, known07 2000 (by omega)]
    rfl
  · have hc : ((ofN c.f1 c.f2 (takeV c.f1 c.f2 c.f3 c.f0 n).1 n : Nat) : Int) ≤ c.f3 := by
      unfold takeV at h17 ⊢
      by_cases hlim : c.f3 ≤ ((ofN c.f1 c.f2 c.f0 n : Nat) : Int)
      · rw [if_pos hlim] at h17
        exact absurd rfl h17
      · rw [if_neg hlim]
        have hcnt : ofN c.f1 c.f2 (addV (prg c.f1 c.f2 c.f0) ⟨n, c.f1 % 65536⟩).1 n ≤ ofN c.f1 c.f2 c.f0 n + 1 := by
          have hsub : ∀ (l : List EN), l.Sublist (prg c.f1 c.f2 c.f0) → ofN c.f1 c.f2 (l ++ [⟨n, c.f1 % 65536⟩]) n ≤ ofN c.f1 c.f2 c.f0 n + 1 := fun l hs => by
            unfold ofN prg
            rw [List.filter_append, List.map_append, List.count_append]
            refine Nat.add_le_add ?_ ?_
            · refine List.Sublist.count_le _ (List.Sublist.map _ ?_)
              exact List.Sublist.trans (List.Sublist.filter _ hs) (by have := prg_prg c.f1 c.f2 c.f0; unfold prg at this ⊢; rw [this]; exact List.Sublist.refl _)
            · refine Nat.le_trans List.count_le_length ?_
              rw [List.length_map]
              exact List.length_filter_le _ _
          unfold addV
          split
          · exact hsub _ (List.drop_sublist _ _)
          · exact hsub _ (List.Sublist.refl _)
        show ((ofN c.f1 c.f2 (addV (prg c.f1 c.f2 c.f0) ⟨n, c.f1 % 65536⟩).1 n : Nat) : Int) ≤ c.f3
        omega
    rw [if_neg h17, rof_eq _ (by omega) n c.f1 c.f2 2000 (by omega), Option.bind_some, if_pos hc, if_pos hlen, known07 2000 (by omega)]
    rfl
end Go.Proofs.Ytbedfoeifaegmaa.Pure
