import Derived.Test.YthmnlopmocjpaaaZStatusTellsStmtStatusTells
import Derived.Test.YthmnlopmocjpaaaZStatusTellsStatusFacts
namespace Go.Proofs.Ythmnlopmocjpaaa.Pure
open Go.RowKit Go.Proofs.Ythmnlopmocjpaaa.Gn Go.Proofs.YthmnlopmocjpaaaW.PrintWords Go.Proofs.YthmnlopmocjpaaaW.PrintLast Go.Proofs.Ythmnlopmocjpaaa.Facts Go.Proofs.Ythmnlopmocjpaaa.Opens
theorem StatusTells : Gn.StatusTells.Pure := by
  intro c m s l _ _ _ _
  refine ⟨1501, ?_⟩
  have hj : l27_StatusTells.j0 1501 s l true c.f0 c.f1 c.f2 c.f3 c.f4 c.f5 c.f6 c.f7 c.f8 c.f9 c.f10 m.f0 m.f1 m.f2 m.f3 m.f4 m.f5 m.f6 m.f7 m.f8 m.f9 m.f10 m.f11 m.f12 m.f13 m.f14 m.f15 m.f16 m.f17 m.f18.f0 m.f18.f1 m.f18.f2 m.f18.f3 m.f18.f4 m.f18.f5 = some true := by
    rw [l27_StatusTells.j0, if_pos rfl, known27 1500 (by omega)]
    rfl
  unfold l27_StatusTells.f
  by_cases h1 : (m.f9.size : Int) > 100
  · rw [if_pos h1]
    exact hj
  rw [if_neg h1]
  by_cases h2 : (l.length : Int) > 40
  · rw [decide_eq_true h2]
    exact hj
  have hr := repS_len c m (decide (s > 0)) s l
  rw [decide_eq_false h2, l27_StatusTells.j0, if_neg (by decide), sslot_eq c m 1500 (by omega), Option.bind_some, srslot_eq c m 1500 (by omega), Option.bind_some, if_pos rfl, sword_eq, Option.bind_some, srword_eq, Option.bind_some, if_pos rfl,
    report_eq c m _ s l (by omega) 1500 (by omega), Option.bind_some, rreport_eq c m _ s l 1500 (by omega), Option.bind_some, same27 _ (by omega) 1500 (by omega), Option.bind_some, if_pos rfl, known27 1500 (by omega)]
  rfl
end Go.Proofs.Ythmnlopmocjpaaa.Pure
