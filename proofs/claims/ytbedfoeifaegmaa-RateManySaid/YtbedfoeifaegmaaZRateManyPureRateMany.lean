import Derived.Test.YtbedfoeifaegmaaZRateManyStmtRateMany
import Derived.Test.YtbedfoeifaegmaaZRateManyRateFacts
namespace Go.Proofs.Ytbedfoeifaegmaa.Pure
open Go.RowKit Go.Proofs.Ytbedfoeifaegmaa.Gn Go.Proofs.YtbedfoeifaegmaaW.PrintWords Go.Proofs.YtbedfoeifaegmaaW.PrintLast Go.Proofs.Ytbedfoeifaegmaa.Facts Go.Proofs.Ytbedfoeifaegmaa.Opens
theorem RateMany : Gn.RateMany.Pure := by
  intro c ns hc hn
  obtain ⟨hl, h1, h2, hL⟩ := hc
  have hw : WfE c.f0 := fun e he => (hl.2 e he).1
  refine ⟨2001, ?_⟩
  have hj : l07_RateMany.j0 2001 ns c.f0 c.f1 c.f2 c.f3 true = some true := by
    rw [l07_RateMany.j0, if_pos rfl, known07 2000 (by omega)]
    rfl
  unfold l07_RateMany.f
  by_cases g : (c.f0.length : Int) > 100
  · rw [if_pos g]; exact hj
  rw [if_neg g]
  by_cases g2 : (ns.length : Int) > 30
  · rw [decide_eq_true g2]; exact hj
  have hm := manyV_len c.f1 c.f2 c.f3 ns c.f0 []
  rw [decide_eq_false g2, l07_RateMany.j0, if_neg (by decide), many_eq c.f1 c.f2 c.f3 hL ns (by omega) hn.2 c.f0 (by omega) hw 2000 (by omega), Option.bind_some, rmany_eq c.f1 c.f2 c.f3 ns (by omega) c.f0 (by omega) 2000 (by omega), Option.bind_some,
    same_eq _ (by omega) 2000 (by omega), Option.bind_some, if_pos rfl, bools_eq _ (by have := hm.2; simp at this; omega) 2000 (by have := hm.2; simp at this; omega), Option.bind_some, if_pos rfl, known07 2000 (by omega)]
  rfl
end Go.Proofs.Ytbedfoeifaegmaa.Pure
