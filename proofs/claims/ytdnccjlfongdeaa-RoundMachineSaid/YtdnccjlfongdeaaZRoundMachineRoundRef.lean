import Derived.Test.YtdnccjlfongdeaaZRoundMachineGn0
import Derived.Test.YtdnccjlfongdeaaZRoundMachineGn3
import Derived.Test.YtdnccjlfongdeaaZRoundMachineGn13
import Derived.Test.YtdnccjlfongdeaaZRoundMachineGn14
import Derived.Test.YtdnccjlfongdeaaZRoundMachineGn16
import Derived.Test.YtdnccjlfongdeaaZRoundMachineGn2
import Derived.Test.YtdnccjlfongdeaaZRoundMachineGn24
import Derived.Test.YtdnccjlfongdeaaZRoundMachineRoundFacts
namespace Go.Proofs.Ytdnccjlfongdeaa.Facts
open Go.RowKit Go.Proofs.Ytdnccjlfongdeaa.Gn Go.Proofs.YtdnccjlfongdeaaW.PrintWords Go.Proofs.YtdnccjlfongdeaaW.PrintLast
open FactsM (markV cl cl_id)
set_option linter.unusedVariables false
set_option linter.unusedSimpArgs false
theorem linesV_short (F : List Int) (L : List ByteArray) (n : Nat) : ∀ x ∈ linesV F L n, x.size ≤ 16 := fun x hx => by
  unfold linesV at hx
  obtain ⟨i, _, rfl⟩ := List.mem_map.1 hx
  exact lineV_size F L i
/-- Lines and lists that are few enough. -/
structure FewR (L : List ByteArray) (G : List (List DL)) : Prop where
  l : L.length ≤ 40
  g : ShortG G
theorem few38_l0 (G : List (List DL)) (hG : G.length ≤ 40) : ∀ (d j : Nat), j + d = G.length → ∃ b, (∀ k, d + 1 ≤ k → r38_Few.l0 k G (j : Int) = some b) ∧ (b = true → ∀ l ∈ G.drop j, l.length ≤ 100)
  | 0, j, h => by
    refine ⟨true, fun k hk => ?_, fun _ l hl => ?_⟩
    · obtain ⟨k, rfl, _⟩ := peel (show 0 + 1 ≤ k by omega)
      rw [r38_Few.l0, if_neg (by omega)]
    · rw [List.drop_of_length_le (by omega)] at hl
      cases hl
  | d + 1, j, h => by
    have hj : j < G.length := by omega
    obtain ⟨b, h1, h2⟩ := few38_l0 G hG d (j + 1) (by omega)
    by_cases hb : ((G[j].length : Nat) : Int) > 100
    · refine ⟨false, fun k hk => ?_, fun e => by cases e⟩
      obtain ⟨k, rfl, hk'⟩ := peel (show d + 1 + 1 ≤ k by omega)
      rw [r38_Few.l0, if_pos (by omega), if_pos (by omega), rd_got G j hj, if_pos hb]
    · refine ⟨b, fun k hk => ?_, fun e l hl => ?_⟩
      · obtain ⟨k, rfl, hk'⟩ := peel (show d + 1 + 1 ≤ k by omega)
        rw [r38_Few.l0, if_pos (by omega), if_pos (by omega), rd_got G j hj, if_neg hb, w64_step (by omega)]
        exact h1 k hk'
      · rw [List.drop_eq_getElem_cons hj] at hl
        rcases List.mem_cons.1 hl with e' | e'
        · rw [e']; omega
        · exact h2 e l e'
theorem few38_eq (L : List ByteArray) (G : List (List DL)) (k : Nat) (hk : 100 ≤ k) : ∃ b, r38_Few.f k L G = some b ∧ (b = true → FewR L G) := by
  obtain ⟨k, rfl, hk'⟩ := peel (show 99 + 1 ≤ k by omega)
  unfold r38_Few.f
  by_cases h0 : (L.length : Int) > 40
  · exact ⟨false, by rw [if_pos h0, r38_Few.j0, if_pos rfl], fun e => by cases e⟩
  by_cases h1 : (G.length : Int) > 40
  · exact ⟨false, by rw [if_neg h0, decide_eq_true h1, r38_Few.j0, if_pos rfl], fun e => by cases e⟩
  obtain ⟨b, h2, h3⟩ := few38_l0 G (by omega) G.length 0 (by omega)
  exact ⟨b, by rw [if_neg h0, decide_eq_false h1, r38_Few.j0, if_neg (by decide)]; exact h2 k (by omega), fun e => ⟨by omega, by omega, h3 e⟩⟩
/-- Is a number behind another one. -/
def folV (c : CF) (a b : Int) : Bool := decide (plainE c.f0 c.f1 c.f2 c.f3 c.f4 c.f5 c.f6 c.f7 c.f8 c.f9 c.f10 = 0) && (apartV c.f8 a b == 1)
theorem follows_eq (c : CF) (a : Int) (a1 : ByteArray) (a2 : List ByteArray) (a3 : List (List DL)) (b : Int) (b1 : ByteArray) (b2 : List ByteArray) (b3 : List (List DL)) (k : Nat) (hk : 9 ≤ k) : round_Follows.f k c.f0 c.f1 c.f2 c.f3 c.f4 c.f5 c.f6 c.f7 c.f8 c.f9 c.f10 a a1 a2 a3 b b1 b2 b3 = some (folV c a b) := by
  unfold round_Follows.f folV
  rw [plain_eq k (by omega), Option.bind_some, apart_eq (k := k) (hk := hk)]
  by_cases hp : plainE c.f0 c.f1 c.f2 c.f3 c.f4 c.f5 c.f6 c.f7 c.f8 c.f9 c.f10 = 0
  · rw [if_pos hp, if_pos hp, decide_eq_true hp]
    rfl
  · rw [if_neg hp, decide_eq_false hp]
    rfl
end Go.Proofs.Ytdnccjlfongdeaa.Facts
