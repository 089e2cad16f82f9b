import Derived.Test.YtdnccjlfongdeaaZRoundMachineStmtRoundMachine
import Derived.Test.YtdnccjlfongdeaaZRoundMachineRoundOut
namespace Go.Proofs.Ytdnccjlfongdeaa.Pure
open Go.RowKit Go.Proofs.Ytdnccjlfongdeaa.Gn Go.Proofs.YtdnccjlfongdeaaW.PrintWords Go.Proofs.YtdnccjlfongdeaaW.PrintLast Go.Proofs.Ytdnccjlfongdeaa.Facts Go.Proofs.Ytdnccjlfongdeaa.Opens
theorem RoundMachine : Gn.RoundMachine.Pure := by
  intro x L G _ _ _
  have hj0 : l38_RoundMachine.j0 (6000 + 1) L G true x.f0.f0 x.f0.f1 x.f0.f2 x.f0.f3 x.f0.f4 x.f0.f5 x.f0.f6 x.f0.f7 x.f0.f8 x.f0.f9 x.f0.f10 x.f1 x.f2 x.f3 = some true := by
    rw [l38_RoundMachine.j0, if_pos rfl, known38 6000 (by omega)]
    rfl
  refine ⟨6000 + 1, ?_⟩
  unfold l38_RoundMachine.f
  rw [ref_plain_eq (k := 6000 + 1) (hk := by omega), Option.bind_some]
  by_cases hp : plainE x.f0.f0 x.f0.f1 x.f0.f2 x.f0.f3 x.f0.f4 x.f0.f5 x.f0.f6 x.f0.f7 x.f0.f8 x.f0.f9 x.f0.f10 = 0
  case neg => rw [if_neg hp, hj0]
  have hP : PlC x.f0 := plain_iff.1 hp
  have hn := hP.n
  have hlen := hP.len
  rw [if_pos hp]
  obtain ⟨b, h1, h2⟩ := few38_eq L G (6000 + 1) (by omega)
  rw [h1, Option.bind_some]
  cases b with
  | false => rw [if_neg (by decide), hj0]
  | true =>
    have hf := h2 rfl
    rw [if_pos rfl]
    by_cases hF : (x.f1.length : Int) > 20
    · rw [if_pos hF, hj0]
    · rw [if_neg hF]
      by_cases hM : (x.f3.size : Int) > 100
      · rw [decide_eq_true hM, hj0]
      · have hG := hf.g
        have hE : ShortG ([] : List (List DL)) := ⟨by decide, fun l hl => by cases hl⟩
        have hg : ∀ (L' : List ByteArray) (G' : List (List DL)) (n : Int), ∀ l ∈ playG x.f0 x.f1 n L' G', l.length ≤ 100 := fun L' G' n l hl => by
          unfold playG gotsV at hl
          obtain ⟨i, _, rfl⟩ := List.mem_map.1 hl
          unfold gotV
          split
          · exact Nat.zero_le _
          · have := delV_len x.f1 (mineV G' i) (playL x.f0 x.f1 L') (playN x.f0 n) x.f0.f10 x.f0.f10.length 0
            omega
        rw [decide_eq_false hM, l38_RoundMachine.j0, if_neg (by decide), play_eq x.f0 x.f1 x.f2 x.f3 L G (by omega) hG 6000 (by omega), Option.bind_some, if_pos hp]
        dsimp only
        rw [play_eq x.f0 x.f1 _ _ [] [] (by omega) hE 6000 (by omega), Option.bind_some, if_pos hp]
        dsimp only
        rw [fits_eq x.f0 x.f1 _ _ _ _ (hg _ _ _) (by omega) 6000 (by omega), Option.bind_some, if_pos (played_fits hP _ _ _ _ _), fits_eq x.f0 x.f1 _ _ _ _ (hg _ _ _) (by omega) 6000 (by omega), Option.bind_some, if_pos (played_fits hP _ _ _ _ _), follows_eq x.f0 _ _ _ _ _ _ _ _ 6000 (by omega), Option.bind_some, if_pos (follows_next hP x.f2), known38 6000 (by omega)]
        rfl
end Go.Proofs.Ytdnccjlfongdeaa.Pure
