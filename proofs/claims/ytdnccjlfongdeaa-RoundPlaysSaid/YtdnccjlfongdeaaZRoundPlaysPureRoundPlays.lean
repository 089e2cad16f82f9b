import Derived.Test.YtdnccjlfongdeaaZRoundPlaysStmtRoundPlays
import Derived.Test.YtdnccjlfongdeaaZRoundPlaysRoundRef
namespace Go.Proofs.Ytdnccjlfongdeaa.Pure
open Go.RowKit Go.Proofs.Ytdnccjlfongdeaa.Gn Go.Proofs.YtdnccjlfongdeaaW.PrintWords Go.Proofs.YtdnccjlfongdeaaW.PrintLast Go.Proofs.Ytdnccjlfongdeaa.Facts Go.Proofs.Ytdnccjlfongdeaa.Opens
theorem RoundPlays : Gn.RoundPlays.Pure := by
  intro x L G next _ _ _ _
  have hj0 : l38_RoundPlays.j0 (6000 + 1) L G next true x.f0.f0 x.f0.f1 x.f0.f2 x.f0.f3 x.f0.f4 x.f0.f5 x.f0.f6 x.f0.f7 x.f0.f8 x.f0.f9 x.f0.f10 x.f1 x.f2 x.f3 = some true := by
    rw [l38_RoundPlays.j0, if_pos rfl, known38 6000 (by omega)]
    rfl
  obtain ⟨b, h1, h2⟩ := few38_eq L G (6000 + 1) (by omega)
  refine ⟨6000 + 1, ?_⟩
  unfold l38_RoundPlays.f
  rw [h1, Option.bind_some]
  cases b with
  | false => rw [if_neg (by decide), hj0]
  | true =>
    have hf := h2 rfl
    rw [if_pos rfl]
    by_cases hF : (x.f1.length : Int) > 20
    · rw [if_pos hF, hj0]
    · rw [if_neg hF]
      by_cases hM : (x.f3.size : Int) > 100
      · rw [decide_eq_true hM, hj0]
      · have hG := hf.g
        have hS : ∀ (a : Int) (b : ByteArray) (L' : List ByteArray) (G' : List (List DL)), L'.length ≤ 1000 → G'.length ≤ 1000 → (∀ l ∈ G', l.length ≤ 1000) → r38_Same.f 6000 a b L' G' a b L' G' = some true := fun a b L' G' h1 h2 h3 => same_eq a b L' G' h1 h2 h3 6000 (by omega)
        rw [decide_eq_false hM, l38_RoundPlays.j0, if_neg (by decide), play_eq x.f0 x.f1 x.f2 x.f3 L G (by omega) hG 6000 (by omega), Option.bind_some, rplay_eq x.f0 x.f1 x.f2 x.f3 L G (by omega) hG 6000 (by omega), Option.bind_some]
        by_cases hp : plainE x.f0.f0 x.f0.f1 x.f0.f2 x.f0.f3 x.f0.f4 x.f0.f5 x.f0.f6 x.f0.f7 x.f0.f8 x.f0.f9 x.f0.f10 = 0
        · have hP : PlC x.f0 := plain_iff.1 hp
          have hn := hP.n
          have hl := playL_len hP x.f1 L
          rw [if_pos hp]
          dsimp only
          rw [hS _ _ _ _ (by omega) (by unfold playG; rw [gotsV_len]; omega) (playG_short hP x.f1 x.f2 L G), Option.bind_some, if_pos rfl, follows_eq x.f0 _ _ _ _ _ _ _ _ 6000 (by omega), Option.bind_some, rfollows_eq x.f0 _ _ _ _ _ _ _ _ 6000 (by omega), Option.bind_some, if_pos (by simp), known38 6000 (by omega)]
          rfl
        · rw [if_neg hp]
          dsimp only
          rw [hS _ _ _ _ (by decide) (by decide) (fun l hl => by cases hl), Option.bind_some, if_pos rfl, follows_eq x.f0 _ _ _ _ _ _ _ _ 6000 (by omega), Option.bind_some, rfollows_eq x.f0 _ _ _ _ _ _ _ _ 6000 (by omega), Option.bind_some, if_pos (by simp), known38 6000 (by omega)]
          rfl
end Go.Proofs.Ytdnccjlfongdeaa.Pure
