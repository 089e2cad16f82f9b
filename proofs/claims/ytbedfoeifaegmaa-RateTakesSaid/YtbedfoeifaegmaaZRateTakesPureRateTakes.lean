import Derived.Test.YtbedfoeifaegmaaZRateTakesStmtRateTakes
import Derived.Test.YtbedfoeifaegmaaZRateTakesRateFacts
namespace Go.Proofs.Ytbedfoeifaegmaa.Pure
open Go.RowKit Go.Proofs.Ytbedfoeifaegmaa.Gn Go.Proofs.YtbedfoeifaegmaaW.PrintWords Go.Proofs.YtbedfoeifaegmaaW.PrintLast Go.Proofs.Ytbedfoeifaegmaa.Facts Go.Proofs.Ytbedfoeifaegmaa.Opens
theorem RateTakes : Gn.RateTakes.Pure := by
  intro c n hc hn
  obtain ⟨hl, h1, h2, hL⟩ := hc
  have hw : WfE c.f0 := fun e he => (hl.2 e he).1
  refine ⟨1001, ?_⟩
  unfold l07_RateTakes.f
  by_cases g : (c.f0.length : Int) > 100
  · rw [if_pos g, known07 1001 (by omega)]
    rfl
  have ht := takeV_len c.f1 c.f2 c.f3 c.f0 n
  rw [if_neg g, take_eq c.f0 (by omega) hw c.f1 c.f2 c.f3 n hL hn, Option.bind_some, rtake_eq c.f0 (by omega) c.f1 c.f2 c.f3 n 1001 (by omega), Option.bind_some, same_eq _ (by omega) 1001 (by omega), Option.bind_some, if_pos rfl, if_pos rfl,
    room_eq c.f0 (by omega) hw c.f1 c.f2 c.f3 n hL hn, Option.bind_some, rroom_eq c.f0 (by omega) c.f1 c.f2 c.f3 n hL 1001 (by omega), Option.bind_some, if_pos rfl, known07 1001 (by omega)]
  rfl
end Go.Proofs.Ytbedfoeifaegmaa.Pure
