import Derived.Test.YtdnccjlfongdeaaZRoundFitsStmtRoundFits
import Derived.Test.YtdnccjlfongdeaaZRoundFitsRoundFits
namespace Go.Proofs.Ytdnccjlfongdeaa.Pure
open Go.RowKit Go.Proofs.Ytdnccjlfongdeaa.Gn Go.Proofs.YtdnccjlfongdeaaW.PrintWords Go.Proofs.YtdnccjlfongdeaaW.PrintLast Go.Proofs.Ytdnccjlfongdeaa.Facts Go.Proofs.Ytdnccjlfongdeaa.Opens
theorem RoundFits : Gn.RoundFits.Pure := by
  intro c F r _ _ _
  have hj0 : l38_RoundFits.j0 (6000 + 1) F true c.f0 c.f1 c.f2 c.f3 c.f4 c.f5 c.f6 c.f7 c.f8 c.f9 c.f10 r.f0 r.f1 r.f2 r.f3 = some true := by
    rw [l38_RoundFits.j0, if_pos rfl, known38 6000 (by omega)]
    rfl
  obtain ⟨b, h1, h2⟩ := few38_eq r.f2 r.f3 (6000 + 1) (by omega)
  refine ⟨6000 + 1, ?_⟩
  unfold l38_RoundFits.f
  rw [h1, Option.bind_some]
  cases b with
  | false => rw [if_neg (by decide), hj0]
  | true =>
    have hf := h2 rfl
    rw [if_pos rfl]
    by_cases hF : (F.length : Int) > 20
    · rw [decide_eq_true hF, hj0]
    · rw [decide_eq_false hF, l38_RoundFits.j0, if_neg (by decide), fits_eq c F r.f0 r.f1 r.f2 r.f3 hf.g.2 (by omega) 6000 (by omega), Option.bind_some, rfits_eq c F r.f0 r.f1 r.f2 r.f3 hf.g.2 (by omega) 6000 (by omega), Option.bind_some, if_pos rfl, known38 6000 (by omega)]
      rfl
end Go.Proofs.Ytdnccjlfongdeaa.Pure
