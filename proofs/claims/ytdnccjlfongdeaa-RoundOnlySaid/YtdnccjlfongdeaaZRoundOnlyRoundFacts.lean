import Derived.Test.YtdnccjlfongdeaaZRoundOnlyGn0
import Derived.Test.YtdnccjlfongdeaaZRoundOnlyGn9
import Derived.Test.YtdnccjlfongdeaaZRoundOnlyGn10
import Derived.Test.YtdnccjlfongdeaaZRoundOnlyGn11
import Derived.Test.YtdnccjlfongdeaaZRoundOnlyGn12
import Derived.Test.YtdnccjlfongdeaaZRoundOnlyGn22
import Derived.Test.YtdnccjlfongdeaaZRoundOnlyGn2
import Derived.Test.YtdnccjlfongdeaaZRoundOnlyRingFacts0
import Derived.Test.YtdnccjlfongdeaaZRoundOnlyCommon
import Derived.Test.YtdnccjlfongdeaaZRoundOnlyConfFacts
import Derived.Test.YtdnccjlfongdeaaZRoundOnlyBoundFacts
import Derived.Test.YtdnccjlfongdeaaZRoundOnlyGateMarks
import Derived.Test.YtdnccjlfongdeaaZRoundOnlyNumberFacts
namespace Go.Proofs.Ytdnccjlfongdeaa.Facts
open Go.RowKit Go.Proofs.Ytdnccjlfongdeaa.Gn Go.Proofs.YtdnccjlfongdeaaW.PrintWords Go.Proofs.YtdnccjlfongdeaaW.PrintLast
open FactsM (markV cl cl_id gmark_eq contains_eq)
set_option linter.unusedVariables false
set_option linter.unusedSimpArgs false
abbrev CF := S24
abbrev DL := S45
theorem known38_at : l38_known.f 250 = some true := by decide +kernel
theorem known38 (k : Nat) (hk : 250 ≤ k) : l38_known.f k = some true := leo_up l38_known.mono hk known38_at
theorem rd_del (xs : List DL) (i : Nat) (h : i < xs.length) : rd_T45 xs (i : Int) = xs[i] := by
  unfold rd_T45
  simp [List.getD_eq_getElem?_getD, h]
theorem rd_str (xs : List ByteArray) (i : Nat) (h : i < xs.length) : rdOf ByteArray.empty xs (i : Int) = xs[i] := by
  unfold rdOf
  simp [List.getD_eq_getElem?_getD, h]
theorem rd_got (xs : List (List DL)) (i : Nat) (h : i < xs.length) : rd_L3 xs (i : Int) = xs[i] := by
  unfold rd_L3
  simp [List.getD_eq_getElem?_getD, h]
theorem lies_eq (c : CF) (F : List Int) (x : Int) (hF : F.length ≤ 1000) (k : Nat) (hk : F.length + 1 ≤ k) : round_machine_lies.f k c.f0 c.f1 c.f2 c.f3 c.f4 c.f5 c.f6 c.f7 c.f8 c.f9 c.f10 F x = some (F.contains x) := by
  unfold round_machine_lies.f
  rw [contains_eq F hF x k hk]
  rfl
/-- The nodes that are not faulty, from one on. -/
def honF (F : List Int) : Nat → Nat → List Int
  | 0, _ => []
  | d + 1, i => if F.contains (i : Int) = true then honF F d (i + 1) else (i : Int) :: honF F d (i + 1)
theorem honF_len (F : List Int) : ∀ d i, (honF F d i).length ≤ d
  | 0, _ => Nat.le_refl _
  | d + 1, i => by
    unfold honF
    have := honF_len F d (i + 1)
    split
    · omega
    · rw [List.length_cons]; omega
theorem honest_l0 (c : CF) (F : List Int) (hF : F.length ≤ 100) (n : Nat) (hn : n ≤ 13) : ∀ (d k i : Nat) (acc : List Int), i + d = n → d + 102 ≤ k → acc.length ≤ i → round_machine_honest.l0 k acc (n : Int) (i : Int) c.f0 c.f1 c.f2 c.f3 c.f4 c.f5 c.f6 c.f7 c.f8 c.f9 c.f10 F = some (acc ++ honF F d i)
  | 0, k, i, acc, h, hk, ha => by
    obtain ⟨k, rfl, _⟩ := peel (show 0 + 1 ≤ k by omega)
    rw [round_machine_honest.l0, if_neg (by omega), honF, List.append_nil]
  | d + 1, k, i, acc, h, hk, ha => by
    obtain ⟨k, rfl, hk'⟩ := peel (show d + 102 + 1 ≤ k by omega)
    rw [round_machine_honest.l0, if_pos (by omega), lies_eq c F _ (by omega) k (by omega), Option.bind_some, w64_step (by omega), honF]
    cases hc : F.contains (i : Int) with
    | true => rw [if_pos rfl, if_pos rfl, honest_l0 c F hF n hn d k (i + 1) acc (by omega) hk' (by omega)]
    | false => rw [if_neg (show ¬ (false = true) by decide), if_pos (show acc.length < 17592186044416 by omega), if_neg (show ¬ (false = true) by decide), honest_l0 c F hF n hn d k (i + 1) _ (by omega) hk' (by simp; omega), List.append_assoc]; rfl
theorem honest_eq (c : CF) (F : List Int) (hF : F.length ≤ 100) (hN : 4 ≤ c.f0 ∧ c.f0 ≤ 13) (k : Nat) (hk : 200 ≤ k) : round_machine_honest.f k c.f0 c.f1 c.f2 c.f3 c.f4 c.f5 c.f6 c.f7 c.f8 c.f9 c.f10 F = some (honF F c.f0.toNat 0) := by
  have := honest_l0 c F hF c.f0.toNat (by omega) c.f0.toNat k 0 [] (by omega) (by omega) (by simp)
  rw [Int.toNat_of_nonneg (by omega)] at this
  unfold round_machine_honest.f
  exact this
/-- A text's first bytes. -/
def cutV (s : ByteArray) : ByteArray := s.extract 0 (mn (s.size : Int) 16).toNat
theorem cut_eq (s : ByteArray) : round_cut.f s = some (cutV s) := by
  unfold round_cut.f cutV
  rw [if_pos (by unfold mn; split <;> omega), if_pos (by unfold mn; split <;> omega)]
theorem cutV_id {s : ByteArray} (h : s.size ≤ 16) : cutV s = s := by
  unfold cutV
  have e : (mn (s.size : Int) 16).toNat = s.size := by unfold mn; split <;> omega
  rw [e]
  exact ByteArray.extract_zero_size
/-- A node's line. -/
def lineV (F : List Int) (L : List ByteArray) (i : Nat) : ByteArray := if F.contains (i : Int) = true then (⟨#[]⟩ : ByteArray) else if (i : Int) < (L.length : Int) then cutV (rdOf ByteArray.empty L (i : Int)) else (⟨#[]⟩ : ByteArray)
def linesV (F : List Int) (L : List ByteArray) (n : Nat) : List ByteArray := (List.range n).map (lineV F L)
theorem linesV_len (F : List Int) (L : List ByteArray) (n : Nat) : (linesV F L n).length = n := by unfold linesV; simp
theorem linesV_succ (F : List Int) (L : List ByteArray) (n : Nat) : linesV F L (n + 1) = linesV F L n ++ [lineV F L n] := by unfold linesV; rw [List.range_succ, List.map_append]; rfl
theorem rep_mid {α : Type} (A : List α) (z v : α) (d : Nat) (i : Nat) (h : A.length = i) : (A ++ List.replicate (d + 1) z).set i v = (A ++ [v]) ++ List.replicate d z := by
  rw [List.replicate_succ, set_mid A z v _ i h, List.append_assoc]
  rfl
theorem drop_hd {l r : List Int} {x : Int} {j : Nat} (h : l.drop j = x :: r) : ∃ hj : j < l.length, l[j] = x ∧ l.drop (j + 1) = r := by
  have hj : j < l.length := by
    rcases Nat.lt_or_ge j l.length with h' | h'
    · exact h'
    · rw [List.drop_of_length_le h'] at h; cases h
  rw [List.drop_eq_getElem_cons hj] at h
  injection h with h1 h2
  exact ⟨hj, h1, h2⟩
theorem lines_l0 (F : List Int) (L : List ByteArray) (H : List Int) (n : Nat) (hH : H.length ≤ 100) (hn : n ≤ 13) : ∀ (d k i j : Nat), i + d = n → H.drop j = honF F d i → d + 2 ≤ k → round_machine_lines.l0 k L (linesV F L i ++ List.replicate d (⟨#[]⟩ : ByteArray)) H (H.length : Int) (j : Int) = some (linesV F L n)
  | 0, k, i, j, h, hj, hk => by
    obtain ⟨k, rfl, _⟩ := peel (show 0 + 1 ≤ k by omega)
    have hl : H.length ≤ j := by
      have := congrArg List.length hj
      rw [List.length_drop, honF, List.length_nil] at this
      omega
    rw [round_machine_lines.l0, if_neg (by omega), List.replicate_zero, List.append_nil, show i = n by omega]
  | d + 1, k, i, j, h, hj, hk => by
    cases hc : F.contains (i : Int) with
    | true =>
      rw [honF, if_pos hc] at hj
      have hv : lineV F L i = (⟨#[]⟩ : ByteArray) := by unfold lineV; rw [if_pos hc]
      have ih := lines_l0 F L H n hH hn d k (i + 1) j (by omega) hj (by omega)
      rw [linesV_succ, hv, List.append_assoc] at ih
      exact ih
    | false =>
      rw [honF, if_neg (by rw [hc]; decide)] at hj
      obtain ⟨hjl, he, hd⟩ := drop_hd hj
      obtain ⟨k, rfl, hk'⟩ := peel (show d + 2 + 1 ≤ k by omega)
      have ih := lines_l0 F L H n hH hn d k (i + 1) (j + 1) (by omega) hd hk'
      rw [round_machine_lines.l0, if_pos (by omega), if_pos (by omega), if_pos (by omega), rd_at H j hjl, he, w64_step (by omega)]
      by_cases hi : (i : Int) < (L.length : Int)
      · have hv : lineV F L i = cutV (rdOf ByteArray.empty L (i : Int)) := by unfold lineV; rw [if_neg (by rw [hc]; decide), if_pos hi]
        rw [if_pos hi, if_pos (by omega), cut_eq, Option.bind_some, if_pos (by rw [List.length_append, linesV_len, List.length_replicate]; omega), Int.toNat_natCast, rep_mid _ _ _ _ _ (linesV_len F L i), ← hv, ← linesV_succ]
        exact ih
      · have hv : lineV F L i = (⟨#[]⟩ : ByteArray) := by unfold lineV; rw [if_neg (by rw [hc]; decide), if_neg hi]
        rw [linesV_succ, hv, List.append_assoc] at ih
        rw [if_neg hi]
        exact ih
theorem lines_eq (c : CF) (F : List Int) (L : List ByteArray) (hF : F.length ≤ 100) (hN : 4 ≤ c.f0 ∧ c.f0 ≤ 13) (k : Nat) (hk : 200 ≤ k) : round_machine_lines.f k c.f0 c.f1 c.f2 c.f3 c.f4 c.f5 c.f6 c.f7 c.f8 c.f9 c.f10 F L = some (linesV F L c.f0.toNat) := by
  have hl := honF_len F c.f0.toNat 0
  unfold round_machine_lines.f
  rw [if_pos (by omega), if_pos (by omega), honest_eq c F hF hN k hk, Option.bind_some]
  exact lines_l0 F L (honF F c.f0.toNat 0) c.f0.toNat (by omega) (by omega) c.f0.toNat k 0 0 (by omega) rfl (by omega)
/-- What a node's lies have of a faulty owner in a slot. -/
def toldV (mine : List DL) (s o : Int) : Option ByteArray := (mine.find? fun d => decide (d.f1 = s) && decide (d.f0 = o)).map (·.f3)
theorem told_l0 (mine : List DL) (s o : Int) (hm : mine.length ≤ 100000) : ∀ (d k j : Nat), j + d = mine.length → d + 1 ≤ k → round_told.l0 k s o mine (mine.length : Int) (j : Int) = some (match toldV (mine.drop j) s o with | some t => (t, true) | none => ((⟨#[]⟩ : ByteArray), false))
  | 0, k, j, h, hk => by
    obtain ⟨k, rfl, _⟩ := peel (show 0 + 1 ≤ k by omega)
    rw [round_told.l0, if_neg (by omega), List.drop_of_length_le (by omega)]
    rfl
  | d + 1, k, j, h, hk => by
    obtain ⟨k, rfl, hk'⟩ := peel (show d + 1 + 1 ≤ k by omega)
    have hj : j < mine.length := by omega
    rw [round_told.l0, if_pos (by omega), if_pos (by omega), if_pos (by omega), rd_del mine j hj, w64_step (by omega), told_l0 mine s o hm d k (j + 1) (by omega) hk', List.drop_eq_getElem_cons hj]
    unfold toldV
    rw [List.find?_cons]
    by_cases h1 : mine[j].f1 = s
    · by_cases h2 : mine[j].f0 = o
      · rw [if_pos h1, if_pos h2, decide_eq_true h1, decide_eq_true h2]
        rfl
      · rw [if_pos h1, if_neg h2, decide_eq_true h1, decide_eq_false h2]
        rfl
    · rw [if_neg h1, decide_eq_false h1]
      rfl
theorem told_eq (mine : List DL) (s o : Int) (hm : mine.length ≤ 100000) (k : Nat) (hk : mine.length + 1 ≤ k) : round_told.f k mine s o = some (match toldV mine s o with | some t => (t, true) | none => ((⟨#[]⟩ : ByteArray), false)) := by
  unfold round_told.f
  exact told_l0 mine s o hm mine.length k 0 (by omega) hk
/-- What a node delivers in a slot; in slots from one on. -/
def slotV (F : List Int) (mine : List DL) (L : List ByteArray) (n : Int) (tb : List Int) (i : Nat) : List DL :=
  if F.contains (rd tb (i : Int)) = true then (match toldV mine (i : Int) (rd tb (i : Int)) with | some t => [(⟨rd tb (i : Int), (i : Int), n, cutV t⟩ : DL)] | none => []) else [(⟨rd tb (i : Int), (i : Int), n, cutV (rdOf ByteArray.empty L (rd tb (i : Int)))⟩ : DL)]
def delV (F : List Int) (mine : List DL) (L : List ByteArray) (n : Int) (tb : List Int) : Nat → Nat → List DL
  | 0, _ => []
  | d + 1, i => slotV F mine L n tb i ++ delV F mine L n tb d (i + 1)
theorem dgo_eq (c : CF) (F : List Int) (mine : List DL) (L : List ByteArray) (n : Int) (tb : List Int) (hF : F.length ≤ 100) (hm : mine.length ≤ 1000) (htb : ∀ x ∈ tb, 0 ≤ x ∧ x < (L.length : Int)) (k : Nat) (hk : 2000 ≤ k) : ∀ (d i : Nat) (acc : List DL), i + d = tb.length → acc.length ≤ i → tb.length ≤ 100 → round_dgo (round_bringsV k c.f0 c.f1 c.f2 c.f3 c.f4 c.f5 c.f6 c.f7 c.f8 c.f9 c.f10 F mine L) tb n d i acc = some (acc ++ delV F mine L n tb d i)
  | 0, i, acc, h, ha, ht => by rw [round_dgo, delV, List.append_nil]
  | d + 1, i, acc, h, ha, ht => by
    have hi : i < tb.length := by omega
    have hb := htb _ (List.getElem_mem hi)
    rw [← rd_at tb i hi] at hb
    have ih := dgo_eq c F mine L n tb hF hm htb k hk d (i + 1)
    rw [round_dgo, round_bringsV, lies_eq c F _ (by omega) k (by omega), Option.bind_some, delV, slotV]
    cases hc : F.contains (rd tb (i : Int)) with
    | true =>
      rw [if_pos rfl, if_pos rfl, told_eq mine _ _ (by omega) k (by omega)]
      cases toldV mine (i : Int) (rd tb (i : Int)) with
      | none =>
        dsimp only
        rw [Option.bind_some, if_neg (show ¬ (false = true) by decide), ih acc (by omega) (by omega) ht]
        rfl
      | some t =>
        dsimp only
        rw [Option.bind_some, if_pos rfl, cut_eq, Option.bind_some, if_pos (by omega), ih _ (by omega) (by rw [List.length_append]; simp; omega) ht, List.append_assoc]
    | false =>
      rw [if_neg (show ¬ (false = true) by decide), if_neg (show ¬ (false = true) by decide), if_pos hb.1, if_pos hb.2, Option.bind_some, if_pos rfl, cut_eq, Option.bind_some, if_pos (by omega), ih _ (by omega) (by rw [List.length_append]; simp; omega) ht, List.append_assoc]
theorem deliver_eq (c b : CF) (F : List Int) (mine : List DL) (L : List ByteArray) (n : Int) (hF : F.length ≤ 100) (hm : mine.length ≤ 1000) (htb : ∀ x ∈ c.f10, 0 ≤ x ∧ x < (L.length : Int)) (ht : c.f10.length ≤ 100) (k : Nat) (hk : 2000 ≤ k) : round_deliverP.f k c.f0 c.f1 c.f2 c.f3 c.f4 c.f5 c.f6 c.f7 c.f8 c.f9 c.f10 F b.f0 b.f1 b.f2 b.f3 b.f4 b.f5 b.f6 b.f7 b.f8 b.f9 b.f10 F mine L n = some (delV F mine L n c.f10 c.f10.length 0) := by
  unfold round_deliverP.f
  rw [dgo_eq b F mine L n c.f10 hF hm htb k hk c.f10.length 0 [] (by omega) (by simp) ht]
  rfl
/-- The lies that a node is told, if there are any. -/
def mineV (lies : List (List DL)) (i : Nat) : List DL := if (i : Int) < (lies.length : Int) then rd_L3 lies (i : Int) else []
/-- What a node delivers. -/
def gotV (F : List Int) (lies : List (List DL)) (L : List ByteArray) (n : Int) (tb : List Int) (i : Nat) : List DL := if F.contains (i : Int) = true then [] else delV F (mineV lies i) L n tb tb.length 0
def gotsV (F : List Int) (lies : List (List DL)) (L : List ByteArray) (n : Int) (tb : List Int) (m : Nat) : List (List DL) := (List.range m).map (gotV F lies L n tb)
theorem gotsV_len (F : List Int) (lies : List (List DL)) (L : List ByteArray) (n : Int) (tb : List Int) (m : Nat) : (gotsV F lies L n tb m).length = m := by unfold gotsV; simp
theorem gotsV_succ (F : List Int) (lies : List (List DL)) (L : List ByteArray) (n : Int) (tb : List Int) (m : Nat) : gotsV F lies L n tb (m + 1) = gotsV F lies L n tb m ++ [gotV F lies L n tb m] := by unfold gotsV; rw [List.range_succ, List.map_append]; rfl
/-- Lies that are not too many. -/
def ShortG (lies : List (List DL)) : Prop := lies.length ≤ 40 ∧ ∀ l ∈ lies, l.length ≤ 100
theorem mineV_len {lies : List (List DL)} (h : ShortG lies) (i : Nat) : (mineV lies i).length ≤ 100 := by
  unfold mineV
  by_cases hi : (i : Int) < (lies.length : Int)
  · have hi' : i < lies.length := by omega
    rw [if_pos hi, rd_got lies i hi']
    exact h.2 _ (List.getElem_mem hi')
  · rw [if_neg hi]
    decide
theorem play_l0 (c : CF) (F : List Int) (lies : List (List DL)) (L : List ByteArray) (num : Int) (mem : ByteArray) (H : List Int) (n : Nat) (hF : F.length ≤ 100) (hG : ShortG lies) (htb : ∀ x ∈ c.f10, 0 ≤ x ∧ x < (L.length : Int)) (ht : c.f10.length ≤ 100) (hH : H.length ≤ 100) (hn : n ≤ 13) : ∀ (d k i j : Nat), i + d = n → H.drop j = honF F d i → d + 2001 ≤ k → round_Play.l0 k lies H (H.length : Int) (j : Int) c.f0 c.f1 c.f2 c.f3 c.f4 c.f5 c.f6 c.f7 c.f8 c.f9 c.f10 F num mem L (gotsV F lies L num c.f10 i ++ List.replicate d []) = some (num, mem, L, gotsV F lies L num c.f10 n)
  | 0, k, i, j, h, hj, hk => by
    obtain ⟨k, rfl, _⟩ := peel (show 0 + 1 ≤ k by omega)
    have hl : H.length ≤ j := by
      have := congrArg List.length hj
      rw [List.length_drop, honF, List.length_nil] at this
      omega
    rw [round_Play.l0, if_neg (by omega), List.replicate_zero, List.append_nil, show i = n by omega]
  | d + 1, k, i, j, h, hj, hk => by
    cases hc : F.contains (i : Int) with
    | true =>
      rw [honF, if_pos hc] at hj
      have hv : gotV F lies L num c.f10 i = [] := by unfold gotV; rw [if_pos hc]
      have ih := play_l0 c F lies L num mem H n hF hG htb ht hH hn d k (i + 1) j (by omega) hj (by omega)
      rw [gotsV_succ, hv, List.append_assoc] at ih
      exact ih
    | false =>
      rw [honF, if_neg (by rw [hc]; decide)] at hj
      obtain ⟨hjl, he, hd⟩ := drop_hd hj
      obtain ⟨k, rfl, hk'⟩ := peel (show d + 2001 + 1 ≤ k by omega)
      have ih := play_l0 c F lies L num mem H n hF hG htb ht hH hn d k (i + 1) (j + 1) (by omega) hd hk'
      have hm := mineV_len hG i
      have hv : gotV F lies L num c.f10 i = delV F (mineV lies i) L num c.f10 c.f10.length 0 := by unfold gotV; rw [if_neg (by rw [hc]; decide)]
      rw [gotsV_succ, hv] at ih
      rw [round_Play.l0, if_pos (by omega), if_pos (by omega), if_pos (by omega), rd_at H j hjl, he, w64_step (by omega)]
      by_cases hi : (i : Int) < (lies.length : Int)
      · have hmv : rd_L3 lies (i : Int) = mineV lies i := by unfold mineV; rw [if_pos hi]
        rw [if_pos hi, if_pos (by omega), hmv, deliver_eq c c F (mineV lies i) L num hF (by omega) htb ht k (by omega), Option.bind_some, if_pos (by rw [List.length_append, gotsV_len, List.length_replicate]; omega), Int.toNat_natCast, rep_mid _ _ _ _ _ (gotsV_len F lies L num c.f10 i)]
        exact ih
      · have hmv : mineV lies i = [] := by unfold mineV; rw [if_neg hi]
        have hdl : round_deliverP.f k c.f0 c.f1 c.f2 c.f3 c.f4 c.f5 c.f6 c.f7 c.f8 c.f9 c.f10 F c.f0 c.f1 c.f2 c.f3 c.f4 c.f5 c.f6 c.f7 c.f8 c.f9 c.f10 F [] L num = some (delV F (mineV lies i) L num c.f10 c.f10.length 0) := by
          have := deliver_eq c c F (mineV lies i) L num hF (by omega) htb ht k (by omega)
          rw [hmv] at this ⊢
          exact this
        rw [if_neg hi, hdl, Option.bind_some, if_pos (by omega), if_pos (by rw [List.length_append, gotsV_len, List.length_replicate]; omega), Int.toNat_natCast, rep_mid _ _ _ _ _ (gotsV_len F lies L num c.f10 i)]
        exact ih
theorem mark_eq (c : CF) (s : ByteArray) (l : List Int) (hl : l.length ≤ 1000) (k : Nat) (hk : l.length + 70 ≤ k) : roster_Mark.f k c.f0 c.f1 c.f2 c.f3 c.f4 c.f5 c.f6 c.f7 c.f8 c.f9 c.f10 s l = some (markV s (cl c.f0) l) := by
  unfold roster_Mark.f
  rw [gmark_eq s c.f0 l hl k hk]
  rfl
/-- What is played. -/
def playN (c : CF) (first : Int) : Int := first % c.f8
def playM (c : CF) (F : List Int) (mem : ByteArray) : ByteArray := markV mem (cl c.f0) (honF F c.f0.toNat 0)
def playL (c : CF) (F : List Int) (L : List ByteArray) : List ByteArray := linesV F L c.f0.toNat
def playG (c : CF) (F : List Int) (first : Int) (L : List ByteArray) (lies : List (List DL)) : List (List DL) := gotsV F lies (playL c F L) (playN c first) c.f10 c.f0.toNat
abbrev PlC (c : CF) : Prop := Plain c.f0 c.f1 c.f2 c.f3 c.f4 c.f5 c.f6 c.f7 c.f8 c.f9 c.f10
theorem playL_len {c : CF} (hp : PlC c) (F : List Int) (L : List ByteArray) : ((playL c F L).length : Int) = c.f0 := by
  have := hp.n
  unfold playL
  rw [linesV_len]
  omega
theorem tb_own {c : CF} (hp : PlC c) (F : List Int) (L : List ByteArray) : ∀ x ∈ c.f10, 0 ≤ x ∧ x < ((playL c F L).length : Int) := fun x hx => by
  rw [playL_len hp]
  exact hp.own x hx
theorem play_eq (c : CF) (F : List Int) (first : Int) (mem : ByteArray) (L : List ByteArray) (lies : List (List DL)) (hF : F.length ≤ 100) (hG : ShortG lies) (k : Nat) (hk : 2200 ≤ k) : round_Play.f k c.f0 c.f1 c.f2 c.f3 c.f4 c.f5 c.f6 c.f7 c.f8 c.f9 c.f10 F first mem L lies = some (if plainE c.f0 c.f1 c.f2 c.f3 c.f4 c.f5 c.f6 c.f7 c.f8 c.f9 c.f10 = 0 then (playN c first, playM c F mem, playL c F L, playG c F first L lies) else (0, (⟨#[]⟩ : ByteArray), [], [])) := by
  unfold round_Play.f
  rw [plain_eq k (by omega), Option.bind_some]
  by_cases hp : plainE c.f0 c.f1 c.f2 c.f3 c.f4 c.f5 c.f6 c.f7 c.f8 c.f9 c.f10 = 0
  · have hP : PlC c := plain_iff.1 hp
    have hn := hP.n
    have hm := hP.m
    have hlen := hP.len
    have hl := honF_len F c.f0.toNat 0
    have hgo := play_l0 c F lies (playL c F L) (playN c first) (playM c F mem) (honF F c.f0.toNat 0) c.f0.toNat hF hG (tb_own hP F L) (by omega) (by omega) (by omega) c.f0.toNat k 0 0 (by omega) rfl (by omega)
    rw [if_pos hp, if_pos hp, mod_eq _ _ (by omega), Option.bind_some, honest_eq c F hF hn k (by omega), Option.bind_some, mark_eq c mem _ (by omega) k (by omega), Option.bind_some, lines_eq c F L hF hn k (by omega), Option.bind_some, if_pos (by omega), if_pos (by omega), Option.bind_some]
    exact hgo
  · rw [if_neg hp, if_neg hp]
end Go.Proofs.Ytdnccjlfongdeaa.Facts
