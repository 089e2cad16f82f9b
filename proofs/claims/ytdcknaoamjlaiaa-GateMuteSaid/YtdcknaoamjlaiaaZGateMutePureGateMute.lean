import Derived.Test.YtdcknaoamjlaiaaZGateMuteStmtGateMute
import Derived.Test.YtdcknaoamjlaiaaZGateMuteGateSendFacts
import Derived.Test.YtdcknaoamjlaiaaZGateMuteGateKnown
namespace Go.Proofs.Ytdcknaoamjlaiaa.Pure
open Go.RowKit Go.Proofs.Ytdcknaoamjlaiaa.Gn Go.Proofs.YtdcknaoamjlaiaaW.PrintWords Go.Proofs.YtdcknaoamjlaiaaW.PrintLast Go.Proofs.Ytdcknaoamjlaiaa.Facts Go.Proofs.Ytdcknaoamjlaiaa.Opens
theorem GateMute : Gn.GateMute.Pure := by
  intro c m n p _ _ _ _
  refine ⟨1001, ?_⟩
  have hj : bellwetherlaw23_GateMute.j0 1001 n true c.f0 c.f1 c.f2 c.f3 c.f4 c.f5 c.f6 c.f7 c.f8 c.f9 c.f10 m.f0 m.f1 m.f2 m.f3 m.f4 m.f5 m.f6 m.f7 m.f8 m.f9 m.f10 m.f11 m.f12 m.f13 m.f14 m.f15 m.f16 m.f17 m.f18.f0 m.f18.f1 m.f18.f2 m.f18.f3 m.f18.f4 m.f18.f5 p.f0 p.f1 p.f2 p.f3 p.f4 p.f5 = some true := by
    rw [bellwetherlaw23_GateMute.j0, if_pos rfl, known23 1000 (by omega)]
    rfl
  unfold bellwetherlaw23_GateMute.f
  by_cases h1 : (m.f12.size : Int) > 100
  · rw [if_pos h1]
    exact hj
  rw [if_neg h1]
  by_cases h2 : m.f8 ≥ 2
  · rw [decide_eq_true h2]
    exact hj
  have ho : openV c m n = -1 := by
    unfold openV
    rw [if_neg h2]
  have hg : (grdT p (-1) m.f7 m.f14).2.2.2.1 = 0 ∧ (grdT p (-1) m.f7 m.f14).1 = p.f0 := by
    unfold grdT
    split
    · rename_i e
      rcases e with e | e
      · exact ⟨e, rfl⟩
      · obtain ⟨a, _⟩ := of_decide_eq_true e
        omega
    · exact ⟨rfl, rfl⟩
  have hs : carT p (-1) m.f7 m.f14 = stripT p := by
    unfold carT
    rw [if_pos (by decide)]
  have he : (sndT (stripT p) (sndS m c.f10.length (-1)) (sndN (-1))).2.2.2.2.2.1.toList = [] := by
    show (⟨#[]⟩ : ByteArray).toList = []
    decide +kernel
  rw [decide_eq_false h2, bellwetherlaw23_GateMute.j0, if_neg (by decide), gsend_eq _ _ _ _ 1000 (by omega), Option.bind_some, gguard_eq _ _ _ _ 1000 (by omega), Option.bind_some, sync_eq, Option.bind_some, if_neg (by rw [decide_eq_false h2]; decide), ho, hs, if_pos (by rfl), if_pos he, if_pos (by rfl), if_pos (by rfl), if_pos (by rfl), if_pos hg.1, if_pos (by rw [hg.2]), known23 1000 (by omega)]
  rfl
end Go.Proofs.Ytdcknaoamjlaiaa.Pure
