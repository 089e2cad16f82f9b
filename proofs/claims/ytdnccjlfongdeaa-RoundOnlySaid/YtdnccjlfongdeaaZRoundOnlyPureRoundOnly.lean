import Derived.Test.YtdnccjlfongdeaaZRoundOnlyStmtRoundOnly
import Derived.Test.YtdnccjlfongdeaaZRoundOnlyRoundOut
namespace Go.Proofs.Ytdnccjlfongdeaa.Pure
open Go.RowKit Go.Proofs.Ytdnccjlfongdeaa.Gn Go.Proofs.YtdnccjlfongdeaaW.PrintWords Go.Proofs.YtdnccjlfongdeaaW.PrintLast Go.Proofs.Ytdnccjlfongdeaa.Facts Go.Proofs.Ytdnccjlfongdeaa.Opens
theorem RoundOnly : Gn.RoundOnly.Pure := by
  intro c F r _ _ _
  have hj0 : l38_RoundOnly.j0 (6000 + 1) F true c.f0 c.f1 c.f2 c.f3 c.f4 c.f5 c.f6 c.f7 c.f8 c.f9 c.f10 r.f0 r.f1 r.f2 r.f3 = some true := by
    rw [l38_RoundOnly.j0, if_pos rfl, known38 6000 (by omega)]
    rfl
  refine ⟨6000 + 1, ?_⟩
  unfold l38_RoundOnly.f
  rw [ref_plain_eq (k := 6000 + 1) (hk := by omega), Option.bind_some]
  by_cases hp : plainE c.f0 c.f1 c.f2 c.f3 c.f4 c.f5 c.f6 c.f7 c.f8 c.f9 c.f10 = 0
  case neg => rw [if_neg hp, hj0]
  have hP : PlC c := plain_iff.1 hp
  have hn := hP.n
  rw [if_pos hp]
  obtain ⟨b, h1, h2⟩ := few38_eq r.f2 r.f3 (6000 + 1) (by omega)
  rw [h1, Option.bind_some]
  cases b with
  | false => rw [if_neg (by decide), hj0]
  | true =>
    have hf := h2 rfl
    have hl := hf.l
    have hG := hf.g
    have hg1 := hG.1
    rw [if_pos rfl]
    by_cases hF : (F.length : Int) > 20
    · rw [if_pos hF, hj0]
    · rw [if_neg hF, fits_eq c F r.f0 r.f1 r.f2 r.f3 hG.2 (by omega) (6000 + 1) (by omega), Option.bind_some]
      by_cases hv : fitsV c F r.f0 r.f1 r.f2 r.f3 = 0
      · obtain ⟨e0, e1, e2, e3⟩ := fits_played hP hv
        rw [hv, l38_RoundOnly.j0, if_neg (by decide), play_eq c F r.f0 r.f1 r.f2 r.f3 (by omega) hG 6000 (by omega), Option.bind_some, if_pos hp]
        dsimp only
        rw [e0, e1, e2, e3, same_eq r.f0 r.f1 r.f2 r.f3 (by omega) (by omega) (fun l h => by have := hG.2 l h; omega) 6000 (by omega), Option.bind_some, if_pos rfl, known38 6000 (by omega)]
        rfl
      · rw [bne_iff_ne.2 hv, hj0]
end Go.Proofs.Ytdnccjlfongdeaa.Pure
