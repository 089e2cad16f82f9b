import Derived.Test.YtdnccjlfongdeaaZRoundFitsGn0
import Derived.Test.YtdnccjlfongdeaaZRoundFitsGn9
import Derived.Test.YtdnccjlfongdeaaZRoundFitsGn10
import Derived.Test.YtdnccjlfongdeaaZRoundFitsGn11
import Derived.Test.YtdnccjlfongdeaaZRoundFitsGn12
import Derived.Test.YtdnccjlfongdeaaZRoundFitsGn22
import Derived.Test.YtdnccjlfongdeaaZRoundFitsGn26
import Derived.Test.YtdnccjlfongdeaaZRoundFitsGn2
import Derived.Test.YtdnccjlfongdeaaZRoundFitsRingFacts0
import Derived.Test.YtdnccjlfongdeaaZRoundFitsConfFacts
import Derived.Test.YtdnccjlfongdeaaZRoundFitsBoundFacts
import Derived.Test.YtdnccjlfongdeaaZRoundFitsGn7
import Derived.Test.YtdnccjlfongdeaaZRoundFitsGn15
import Derived.Test.YtdnccjlfongdeaaZRoundFitsGn24
import Derived.Test.YtdnccjlfongdeaaZRoundFitsGn3
import Derived.Test.YtdnccjlfongdeaaZRoundFitsGn13
import Derived.Test.YtdnccjlfongdeaaZRoundFitsGn14
import Derived.Test.YtdnccjlfongdeaaZRoundFitsGn16
namespace Go.Proofs.Ytdnccjlfongdeaa.Facts
open Go.RowKit Go.Proofs.Ytdnccjlfongdeaa.Gn Go.Proofs.YtdnccjlfongdeaaW.PrintWords Go.Proofs.YtdnccjlfongdeaaW.PrintLast
open FactsM (markV cl cl_id gmark_eq contains_eq in_eq)
set_option linter.unusedVariables false
set_option linter.unusedSimpArgs false
abbrev CF := S24
abbrev DL := S45
theorem known38_at : l38_known.f 250 = some true := by decide +kernel
theorem known38 (k : Nat) (hk : 250 ≤ k) : l38_known.f k = some true := leo_up l38_known.mono hk known38_at
theorem rd_del (xs : List DL) (i : Nat) (h : i < xs.length) : rd_T45 xs (i : Int) = xs[i] := by
  unfold rd_T45
  simp [List.getD_eq_getElem?_getD, h]
theorem rd_got (xs : List (List DL)) (i : Nat) (h : i < xs.length) : rd_L3 xs (i : Int) = xs[i] := by
  unfold rd_L3
  simp [List.getD_eq_getElem?_getD, h]
theorem lies_eq (c : CF) (F : List Int) (x : Int) (hF : F.length ≤ 1000) (k : Nat) (hk : F.length + 1 ≤ k) : round_machine_lies.f k c.f0 c.f1 c.f2 c.f3 c.f4 c.f5 c.f6 c.f7 c.f8 c.f9 c.f10 F x = some (F.contains x) := by
  unfold round_machine_lies.f
  rw [contains_eq F hF x k hk]
  rfl
theorem rin_eq (F : List Int) (x : Int) (hF : F.length ≤ 1000) (k : Nat) (hk : F.length + 1 ≤ k) : r14_In.f k F x = some (F.contains x) := by
  unfold r14_In.f
  have := in_eq F hF x F.length k 0 (by omega) hk
  rwa [List.drop_zero] at this
/-- The nodes that are not faulty, from one on. -/
def honF (F : List Int) : Nat → Nat → List Int
  | 0, _ => []
  | d + 1, i => if F.contains (i : Int) = true then honF F d (i + 1) else (i : Int) :: honF F d (i + 1)
theorem honF_len (F : List Int) : ∀ d i, (honF F d i).length ≤ d
  | 0, _ => Nat.le_refl _
  | d + 1, i => by
    unfold honF
    have := honF_len F d (i + 1)
    split
    · omega
    · rw [List.length_cons]; omega
theorem honest_l0 (c : CF) (F : List Int) (hF : F.length ≤ 100) (n : Nat) (hn : n ≤ 13) : ∀ (d k i : Nat) (acc : List Int), i + d = n → d + 102 ≤ k → acc.length ≤ i → round_machine_honest.l0 k acc (n : Int) (i : Int) c.f0 c.f1 c.f2 c.f3 c.f4 c.f5 c.f6 c.f7 c.f8 c.f9 c.f10 F = some (acc ++ honF F d i)
  | 0, k, i, acc, h, hk, ha => by
    obtain ⟨k, rfl, _⟩ := peel (show 0 + 1 ≤ k by omega)
    rw [round_machine_honest.l0, if_neg (by omega), honF, List.append_nil]
  | d + 1, k, i, acc, h, hk, ha => by
    obtain ⟨k, rfl, hk'⟩ := peel (show d + 102 + 1 ≤ k by omega)
    rw [round_machine_honest.l0, if_pos (by omega), lies_eq c F _ (by omega) k (by omega), Option.bind_some, w64_step (by omega), honF]
    cases hc : F.contains (i : Int) with
    | true => rw [if_pos rfl, if_pos rfl, honest_l0 c F hF n hn d k (i + 1) acc (by omega) hk' (by omega)]
    | false => rw [if_neg (show ¬ (false = true) by decide), if_pos (show acc.length < 17592186044416 by omega), if_neg (show ¬ (false = true) by decide), honest_l0 c F hF n hn d k (i + 1) _ (by omega) hk' (by simp; omega), List.append_assoc]; rfl
theorem honest_eq (c : CF) (F : List Int) (hF : F.length ≤ 100) (hN : 4 ≤ c.f0 ∧ c.f0 ≤ 13) (k : Nat) (hk : 200 ≤ k) : round_machine_honest.f k c.f0 c.f1 c.f2 c.f3 c.f4 c.f5 c.f6 c.f7 c.f8 c.f9 c.f10 F = some (honF F c.f0.toNat 0) := by
  have := honest_l0 c F hF c.f0.toNat (by omega) c.f0.toNat k 0 [] (by omega) (by omega) (by simp)
  rw [Int.toNat_of_nonneg (by omega)] at this
  unfold round_machine_honest.f
  exact this
theorem drop_hd {l r : List Int} {x : Int} {j : Nat} (h : l.drop j = x :: r) : ∃ hj : j < l.length, l[j] = x ∧ l.drop (j + 1) = r := by
  have hj : j < l.length := by
    rcases Nat.lt_or_ge j l.length with h' | h'
    · exact h'
    · rw [List.drop_of_length_le h'] at h; cases h
  rw [List.drop_eq_getElem_cons hj] at h
  injection h with h1 h2
  exact ⟨hj, h1, h2⟩
/-- Lies that are not too many. -/
def ShortG (lies : List (List DL)) : Prop := lies.length ≤ 40 ∧ ∀ l ∈ lies, l.length ≤ 100
theorem mark_eq (c : CF) (s : ByteArray) (l : List Int) (hl : l.length ≤ 1000) (k : Nat) (hk : l.length + 70 ≤ k) : roster_Mark.f k c.f0 c.f1 c.f2 c.f3 c.f4 c.f5 c.f6 c.f7 c.f8 c.f9 c.f10 s l = some (markV s (cl c.f0) l) := by
  unfold roster_Mark.f
  rw [gmark_eq s c.f0 l hl k hk]
  rfl
abbrev PlC (c : CF) : Prop := Plain c.f0 c.f1 c.f2 c.f3 c.f4 c.f5 c.f6 c.f7 c.f8 c.f9 c.f10
end Go.Proofs.Ytdnccjlfongdeaa.Facts
namespace Go.Proofs.Ytdnccjlfongdeaa.Facts
open Go.RowKit Go.Proofs.Ytdnccjlfongdeaa.Gn Go.Proofs.YtdnccjlfongdeaaW.PrintWords Go.Proofs.YtdnccjlfongdeaaW.PrintLast
open FactsM (markV cl cl_id)
set_option linter.unusedVariables false
set_option linter.unusedSimpArgs false
/-- Lines and lists that are few enough. -/
structure FewR (L : List ByteArray) (G : List (List DL)) : Prop where
  l : L.length ≤ 40
  g : ShortG G
theorem few38_l0 (G : List (List DL)) (hG : G.length ≤ 40) : ∀ (d j : Nat), j + d = G.length → ∃ b, (∀ k, d + 1 ≤ k → r38_Few.l0 k G (j : Int) = some b) ∧ (b = true → ∀ l ∈ G.drop j, l.length ≤ 100)
  | 0, j, h => by
    refine ⟨true, fun k hk => ?_, fun _ l hl => ?_⟩
    · obtain ⟨k, rfl, _⟩ := peel (show 0 + 1 ≤ k by omega)
      rw [r38_Few.l0, if_neg (by omega)]
    · rw [List.drop_of_length_le (by omega)] at hl
      cases hl
  | d + 1, j, h => by
    have hj : j < G.length := by omega
    obtain ⟨b, h1, h2⟩ := few38_l0 G hG d (j + 1) (by omega)
    by_cases hb : ((G[j].length : Nat) : Int) > 100
    · refine ⟨false, fun k hk => ?_, fun e => by cases e⟩
      obtain ⟨k, rfl, hk'⟩ := peel (show d + 1 + 1 ≤ k by omega)
      rw [r38_Few.l0, if_pos (by omega), if_pos (by omega), rd_got G j hj, if_pos hb]
    · refine ⟨b, fun k hk => ?_, fun e l hl => ?_⟩
      · obtain ⟨k, rfl, hk'⟩ := peel (show d + 1 + 1 ≤ k by omega)
        rw [r38_Few.l0, if_pos (by omega), if_pos (by omega), rd_got G j hj, if_neg hb, w64_step (by omega)]
        exact h1 k hk'
      · rw [List.drop_eq_getElem_cons hj] at hl
        rcases List.mem_cons.1 hl with e' | e'
        · rw [e']; omega
        · exact h2 e l e'
theorem few38_eq (L : List ByteArray) (G : List (List DL)) (k : Nat) (hk : 100 ≤ k) : ∃ b, r38_Few.f k L G = some b ∧ (b = true → FewR L G) := by
  obtain ⟨k, rfl, hk'⟩ := peel (show 99 + 1 ≤ k by omega)
  unfold r38_Few.f
  by_cases h0 : (L.length : Int) > 40
  · exact ⟨false, by rw [if_pos h0, r38_Few.j0, if_pos rfl], fun e => by cases e⟩
  by_cases h1 : (G.length : Int) > 40
  · exact ⟨false, by rw [if_neg h0, decide_eq_true h1, r38_Few.j0, if_pos rfl], fun e => by cases e⟩
  obtain ⟨b, h2, h3⟩ := few38_l0 G (by omega) G.length 0 (by omega)
  exact ⟨b, by rw [if_neg h0, decide_eq_false h1, r38_Few.j0, if_neg (by decide)]; exact h2 k (by omega), fun e => ⟨by omega, by omega, h3 e⟩⟩
end Go.Proofs.Ytdnccjlfongdeaa.Facts
