import Derived.Test.YtdnccjlfongdeaaZRoundOnlyGn0
import Derived.Test.YtdnccjlfongdeaaZRoundOnlyGn3
import Derived.Test.YtdnccjlfongdeaaZRoundOnlyGn13
import Derived.Test.YtdnccjlfongdeaaZRoundOnlyGn14
import Derived.Test.YtdnccjlfongdeaaZRoundOnlyGn16
import Derived.Test.YtdnccjlfongdeaaZRoundOnlyGn2
import Derived.Test.YtdnccjlfongdeaaZRoundOnlyGn24
import Derived.Test.YtdnccjlfongdeaaZRoundOnlyRoundFacts
namespace Go.Proofs.Ytdnccjlfongdeaa.Facts
open Go.RowKit Go.Proofs.Ytdnccjlfongdeaa.Gn Go.Proofs.YtdnccjlfongdeaaW.PrintWords Go.Proofs.YtdnccjlfongdeaaW.PrintLast
open FactsM (markV cl cl_id)
set_option linter.unusedVariables false
set_option linter.unusedSimpArgs false
theorem same24_l0 (l : List DL) (hl : l.length ≤ 100000) : ∀ (d k j : Nat), j + d = l.length → d + 1 ≤ k → r24_Same.l0 k l l (j : Int) = some true
  | 0, k, j, h, hk => by
    obtain ⟨k, rfl, _⟩ := peel (show 0 + 1 ≤ k by omega)
    rw [r24_Same.l0, if_neg (by omega)]
  | d + 1, k, j, h, hk => by
    obtain ⟨k, rfl, hk'⟩ := peel (show d + 1 + 1 ≤ k by omega)
    rw [r24_Same.l0, if_pos (by omega), if_pos (by omega), if_pos (by omega), if_neg (by simp), w64_step (by omega)]
    exact same24_l0 l hl d k (j + 1) (by omega) hk'
theorem same24_eq (l : List DL) (hl : l.length ≤ 100000) (k : Nat) (hk : l.length + 1 ≤ k) : r24_Same.f k l l = some true := by
  unfold r24_Same.f
  rw [if_pos rfl]
  exact same24_l0 l hl l.length k 0 (by omega) hk
theorem same_l1 (a : Int) (b : ByteArray) (L : List ByteArray) (G : List (List DL)) (hG : G.length ≤ 1000) (hg : ∀ l ∈ G, l.length ≤ 1000) : ∀ (d k j : Nat), j + d = G.length → d + 1002 ≤ k → r38_Same.l1 k (j : Int) a b L G a b L G = some true
  | 0, k, j, h, hk => by
    obtain ⟨k, rfl, _⟩ := peel (show 0 + 1 ≤ k by omega)
    rw [r38_Same.l1, if_neg (by omega)]
  | d + 1, k, j, h, hk => by
    obtain ⟨k, rfl, hk'⟩ := peel (show d + 1002 + 1 ≤ k by omega)
    have hj : j < G.length := by omega
    have := hg _ (List.getElem_mem hj)
    rw [r38_Same.l1, if_pos (by omega), if_pos (by omega), if_pos (by omega), rd_got G j hj, same24_eq _ (by omega) k (by omega), Option.bind_some, if_pos rfl, w64_step (by omega)]
    exact same_l1 a b L G hG hg d k (j + 1) (by omega) hk'
theorem same_l0 (a : Int) (b : ByteArray) (L : List ByteArray) (G : List (List DL)) (hL : L.length ≤ 1000) (hG : G.length ≤ 1000) (hg : ∀ l ∈ G, l.length ≤ 1000) : ∀ (d k j : Nat), j + d = L.length → d + 3000 ≤ k → r38_Same.l0 k (j : Int) a b L G a b L G = some true
  | 0, k, j, h, hk => by
    obtain ⟨k, rfl, _⟩ := peel (show 2999 + 1 ≤ k by omega)
    rw [r38_Same.l0, if_neg (by omega)]
    exact same_l1 a b L G hG hg G.length k 0 (by omega) (by omega)
  | d + 1, k, j, h, hk => by
    obtain ⟨k, rfl, hk'⟩ := peel (show d + 3000 + 1 ≤ k by omega)
    rw [r38_Same.l0, if_pos (by omega), if_pos (by omega), if_pos (by omega), if_pos rfl, w64_step (by omega)]
    exact same_l0 a b L G hL hG hg d k (j + 1) (by omega) hk'
theorem same_eq (a : Int) (b : ByteArray) (L : List ByteArray) (G : List (List DL)) (hL : L.length ≤ 1000) (hG : G.length ≤ 1000) (hg : ∀ l ∈ G, l.length ≤ 1000) (k : Nat) (hk : 5000 ≤ k) : r38_Same.f k a b L G a b L G = some true := by
  obtain ⟨k, rfl, hk'⟩ := peel (show 4999 + 1 ≤ k by omega)
  unfold r38_Same.f
  rw [if_pos rfl, if_pos rfl, if_pos rfl, r38_Same.j0, if_neg (by simp)]
  exact same_l0 a b L G hL hG hg L.length k 0 (by omega) (by omega)
/-- Lines and lists that are few enough. -/
structure FewR (L : List ByteArray) (G : List (List DL)) : Prop where
  l : L.length ≤ 40
  g : ShortG G
theorem few38_l0 (G : List (List DL)) (hG : G.length ≤ 40) : ∀ (d j : Nat), j + d = G.length → ∃ b, (∀ k, d + 1 ≤ k → r38_Few.l0 k G (j : Int) = some b) ∧ (b = true → ∀ l ∈ G.drop j, l.length ≤ 100)
  | 0, j, h => by
    refine ⟨true, fun k hk => ?_, fun _ l hl => ?_⟩
    · obtain ⟨k, rfl, _⟩ := peel (show 0 + 1 ≤ k by omega)
      rw [r38_Few.l0, if_neg (by omega)]
    · rw [List.drop_of_length_le (by omega)] at hl
      cases hl
  | d + 1, j, h => by
    have hj : j < G.length := by omega
    obtain ⟨b, h1, h2⟩ := few38_l0 G hG d (j + 1) (by omega)
    by_cases hb : ((G[j].length : Nat) : Int) > 100
    · refine ⟨false, fun k hk => ?_, fun e => by cases e⟩
      obtain ⟨k, rfl, hk'⟩ := peel (show d + 1 + 1 ≤ k by omega)
      rw [r38_Few.l0, if_pos (by omega), if_pos (by omega), rd_got G j hj, if_pos hb]
    · refine ⟨b, fun k hk => ?_, fun e l hl => ?_⟩
      · obtain ⟨k, rfl, hk'⟩ := peel (show d + 1 + 1 ≤ k by omega)
        rw [r38_Few.l0, if_pos (by omega), if_pos (by omega), rd_got G j hj, if_neg hb, w64_step (by omega)]
        exact h1 k hk'
      · rw [List.drop_eq_getElem_cons hj] at hl
        rcases List.mem_cons.1 hl with e' | e'
        · rw [e']; omega
        · exact h2 e l e'
theorem few38_eq (L : List ByteArray) (G : List (List DL)) (k : Nat) (hk : 100 ≤ k) : ∃ b, r38_Few.f k L G = some b ∧ (b = true → FewR L G) := by
  obtain ⟨k, rfl, hk'⟩ := peel (show 99 + 1 ≤ k by omega)
  unfold r38_Few.f
  by_cases h0 : (L.length : Int) > 40
  · exact ⟨false, by rw [if_pos h0, r38_Few.j0, if_pos rfl], fun e => by cases e⟩
  by_cases h1 : (G.length : Int) > 40
  · exact ⟨false, by rw [if_neg h0, decide_eq_true h1, r38_Few.j0, if_pos rfl], fun e => by cases e⟩
  obtain ⟨b, h2, h3⟩ := few38_l0 G (by omega) G.length 0 (by omega)
  exact ⟨b, by rw [if_neg h0, decide_eq_false h1, r38_Few.j0, if_neg (by decide)]; exact h2 k (by omega), fun e => ⟨by omega, by omega, h3 e⟩⟩
end Go.Proofs.Ytdnccjlfongdeaa.Facts
