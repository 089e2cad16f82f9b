import Derived.Test.YtdnccjlfongdeaaZRoundPlaysGn0
import Derived.Test.YtdnccjlfongdeaaZRoundPlaysGn3
import Derived.Test.YtdnccjlfongdeaaZRoundPlaysGn1
import Derived.Test.YtdnccjlfongdeaaZRoundPlaysGn14
import Derived.Test.YtdnccjlfongdeaaZRoundPlaysGn16
import Derived.Test.YtdnccjlfongdeaaZRoundPlaysGn30
import Derived.Test.YtdnccjlfongdeaaZRoundPlaysGn32
import Derived.Test.YtdnccjlfongdeaaZRoundPlaysGn34
import Derived.Test.YtdnccjlfongdeaaZRoundPlaysRoundFacts
namespace Go.Proofs.Ytdnccjlfongdeaa.Facts
open Go.RowKit Go.Proofs.Ytdnccjlfongdeaa.Gn Go.Proofs.YtdnccjlfongdeaaW.PrintWords Go.Proofs.YtdnccjlfongdeaaW.PrintLast
open FactsM (markV cl)
set_option linter.unusedVariables false
set_option linter.unusedSimpArgs false
theorem rplay_l2 (c : CF) (F : List Int) (lies : List (List DL)) (L : List ByteArray) (num : Int) (mem : ByteArray) (G : List (List DL)) (i : Nat) (hF : F.length ≤ 100) (hG : ShortG lies) (hc : F.contains (i : Int) = false) (hL : ∀ x ∈ L, x.size ≤ 16) (htb : ∀ x ∈ c.f10, 0 ≤ x ∧ x < (L.length : Int)) (ht : c.f10.length ≤ 100) (hGl : G.length ≤ 100) (K : Nat) (hK : 1000 ≤ K) (R : Option (Int × ByteArray × List ByteArray × List (List DL))) :
    ∀ (d s : Nat) (acc : List DL), s + d = c.f10.length → acc.length ≤ s → (∀ k', K ≤ k' → r38_Play.l1 k' F lies (wrap64 ((i : Int) + 1)) c.f0 c.f1 c.f2 c.f3 c.f4 c.f5 c.f6 c.f7 c.f8 c.f9 c.f10 num mem L (G ++ [acc ++ delV F (mineV lies i) L num c.f10 d s]) = R) → ∀ k, K + 2 * d + 2 ≤ k → r38_Play.l2 k F lies (i : Int) acc (s : Int) c.f0 c.f1 c.f2 c.f3 c.f4 c.f5 c.f6 c.f7 c.f8 c.f9 c.f10 num mem L G = R
  | 0, s, acc, h, ha, hR, k, hk => by
    obtain ⟨k, rfl, hk'⟩ := peel (show K + 1 + 1 ≤ k by omega)
    rw [delV, List.append_nil] at hR
    rw [r38_Play.l2, if_neg (by omega)]
    obtain ⟨k, rfl, hk2⟩ := peel hk'
    rw [r38_Play.j3, if_neg (by decide), if_pos (by omega)]
    exact hR k hk2
  | d + 1, s, acc, h, ha, hR, k, hk => by
    obtain ⟨k, rfl, hk'⟩ := peel (show K + 2 * d + 3 + 1 ≤ k by omega)
    have hs : s < c.f10.length := by omega
    have hb := htb _ (List.getElem_mem hs)
    rw [← rd_at c.f10 s hs] at hb
    have hm := mineV_len hG i
    rw [r38_Play.l2, if_pos (by omega), rin_eq F _ (by omega) k (by omega), Option.bind_some, hc]
    obtain ⟨k, rfl, hk2⟩ := peel (show K + 2 * d + 2 + 1 ≤ k by omega)
    rw [r38_Play.j3, if_pos (by rfl), if_pos (by omega), if_pos (by omega), rin_eq F _ (by omega) k (by omega), Option.bind_some, w64_step (by omega)]
    rw [delV] at hR
    have ih := fun (acc' : List DL) (h1 : acc'.length ≤ s + 1) (h2 : acc' = acc ++ slotV F (mineV lies i) L num c.f10 s) => rplay_l2 c F lies L num mem G i hF hG hc hL htb ht hGl K hK R d (s + 1) acc' (by omega) h1 (fun k' hk' => by rw [h2, List.append_assoc]; exact hR k' hk') k hk2
    unfold slotV at ih
    cases hf : F.contains (rd c.f10 (s : Int)) with
    | true =>
      rw [hf, if_pos rfl] at ih
      rw [if_pos rfl]
      by_cases hi : (i : Int) < (lies.length : Int)
      · have hmv : rd_L3 lies (i : Int) = mineV lies i := by unfold mineV; rw [if_pos hi]
        rw [if_pos hi, if_pos (by omega), hmv, lie_eq (mineV lies i) _ _ _ (by omega) k (by omega), Option.bind_some]
        cases hq : toldV (mineV lies i) (s : Int) (rd c.f10 (s : Int)) with
        | none =>
          rw [hq] at ih
          dsimp only at ih ⊢
          rw [if_pos (by simp; omega)]
          exact ih _ (by simp; omega) rfl
        | some t =>
          rw [hq] at ih
          dsimp only at ih ⊢
          rw [if_pos (by simp; omega)]
          exact ih _ (by simp; omega) rfl
      · have hmv : mineV lies i = [] := by unfold mineV; rw [if_neg hi]
        rw [hmv] at ih
        rw [if_neg hi]
        exact ih acc (by omega) (by rw [show toldV [] (s : Int) (rd c.f10 (s : Int)) = none from rfl]; simp)
    | false =>
      have hlt : (rd c.f10 (s : Int)).toNat < L.length := by omega
      have hcut : cutV (rdOf ByteArray.empty L (rd c.f10 (s : Int))) = rdOf ByteArray.empty L (rd c.f10 (s : Int)) := by
        have e : rd c.f10 (s : Int) = (((rd c.f10 (s : Int)).toNat : Nat) : Int) := by omega
        rw [e, rd_str L _ hlt]
        exact cutV_id (hL _ (List.getElem_mem hlt))
      rw [hf, if_neg (show ¬ (false = true) by decide), hcut] at ih
      rw [if_neg (show ¬ (false = true) by decide), if_pos hb.1, if_pos hb.2, if_pos (by omega)]
      exact ih _ (by rw [List.length_append]; simp; omega) rfl
theorem rplay_l1 (c : CF) (F : List Int) (lies : List (List DL)) (L : List ByteArray) (num : Int) (mem : ByteArray) (n : Nat) (hc0 : c.f0 = (n : Int)) (hn : n ≤ 13) (hF : F.length ≤ 100) (hG : ShortG lies) (hL : ∀ x ∈ L, x.size ≤ 16) (htb : ∀ x ∈ c.f10, 0 ≤ x ∧ x < (L.length : Int)) (ht : c.f10.length ≤ 100) :
    ∀ (d i : Nat), i + d = n → ∀ k, 1000 + 210 * d + 1 ≤ k → r38_Play.l1 k F lies (i : Int) c.f0 c.f1 c.f2 c.f3 c.f4 c.f5 c.f6 c.f7 c.f8 c.f9 c.f10 num mem L (gotsV F lies L num c.f10 i) = some (num, mem, L, gotsV F lies L num c.f10 n)
  | 0, i, h, k, hk => by
    obtain ⟨k, rfl, _⟩ := peel (show 0 + 1 ≤ k by omega)
    rw [r38_Play.l1, if_neg (by omega), show i = n by omega]
  | d + 1, i, h, k, hk => by
    obtain ⟨k, rfl, hk'⟩ := peel (show 1000 + 210 * d + 210 + 1 ≤ k by omega)
    have ih := rplay_l1 c F lies L num mem n hc0 hn hF hG hL htb ht d (i + 1) (by omega)
    rw [r38_Play.l1, if_pos (by omega)]
    cases hc : F.contains (i : Int) with
    | true =>
      have hv : gotV F lies L num c.f10 i = [] := by unfold gotV; rw [if_pos hc]
      rw [gotsV_succ, hv] at ih
      obtain ⟨k, rfl, hk2⟩ := peel (show 1000 + 210 * d + 209 + 1 ≤ k by omega)
      have hend : ∀ k', 1000 + 210 * d + 2 ≤ k' → r38_Play.j3 k' F lies (i : Int) [] 0 false c.f0 c.f1 c.f2 c.f3 c.f4 c.f5 c.f6 c.f7 c.f8 c.f9 c.f10 num mem L (gotsV F lies L num c.f10 i) = some (num, mem, L, gotsV F lies L num c.f10 n) := fun k' hk' => by
        obtain ⟨k', rfl, hk3⟩ := peel (show 1000 + 210 * d + 1 + 1 ≤ k' by omega)
        rw [r38_Play.j3, if_neg (by decide), if_pos (by rw [gotsV_len]; omega), w64_step (by omega)]
        exact ih k' hk3
      rw [r38_Play.l2, rin_eq F _ (by omega) k (by omega), Option.bind_some, hc]
      split
      · exact hend k (by omega)
      · exact hend k (by omega)
    | false =>
      have hv : gotV F lies L num c.f10 i = delV F (mineV lies i) L num c.f10 c.f10.length 0 := by unfold gotV; rw [if_neg (by rw [hc]; decide)]
      rw [gotsV_succ, hv] at ih
      exact rplay_l2 c F lies L num mem (gotsV F lies L num c.f10 i) i hF hG hc hL htb ht (by rw [gotsV_len]; omega) (1000 + 210 * d + 1) (by omega) _ c.f10.length 0 [] (by omega) (by simp) (fun k' hk' => by rw [w64_step (by omega), List.nil_append]; exact ih k' hk') k (by omega)
theorem rplay_l0 (c : CF) (F : List Int) (mem0 : ByteArray) (L0 : List ByteArray) (lies : List (List DL)) (num : Int) (n : Nat) (hc0 : c.f0 = (n : Int)) (hn : n ≤ 13) (hF : F.length ≤ 100) (K : Nat) (hK : 1000 ≤ K) (R : Option (Int × ByteArray × List ByteArray × List (List DL)))
    (hR : ∀ k', K ≤ k' → (r25_Mark.f k' c.f0 c.f1 c.f2 c.f3 c.f4 c.f5 c.f6 c.f7 c.f8 c.f9 c.f10 mem0 (honF F n 0)).bind (fun t => r38_Play.l1 k' F lies 0 c.f0 c.f1 c.f2 c.f3 c.f4 c.f5 c.f6 c.f7 c.f8 c.f9 c.f10 num t (linesV F L0 n) []) = R) :
    ∀ (d i : Nat) (H : List Int), i + d = n → H.length ≤ i → H ++ honF F d i = honF F n 0 → ∀ k, K + d + 1 ≤ k → r38_Play.l0 k F mem0 L0 lies H (i : Int) c.f0 c.f1 c.f2 c.f3 c.f4 c.f5 c.f6 c.f7 c.f8 c.f9 c.f10 num (⟨#[]⟩ : ByteArray) (linesV F L0 i) = R
  | 0, i, H, h, hl, hH, k, hk => by
    obtain ⟨k, rfl, hk'⟩ := peel (show K + 1 ≤ k by omega)
    have hin : i = n := by omega
    rw [honF, List.append_nil] at hH
    rw [r38_Play.l0, if_neg (by omega), hH, hin]
    exact hR k hk'
  | d + 1, i, H, h, hl, hH, k, hk => by
    obtain ⟨k, rfl, hk'⟩ := peel (show K + d + 1 + 1 ≤ k by omega)
    have ih := rplay_l0 c F mem0 L0 lies num n hc0 hn hF K hK R hR d (i + 1)
    rw [r38_Play.l0, if_pos (by omega), rin_eq F _ (by omega) k (by omega), Option.bind_some, w64_step (by omega)]
    have hll := linesV_len F L0 i
    cases hc : F.contains (i : Int) with
    | true =>
      have hv : lineV F L0 i = (⟨#[]⟩ : ByteArray) := by unfold lineV; rw [if_pos hc]
      rw [honF, if_pos hc] at hH
      rw [linesV_succ, hv] at ih
      rw [if_pos rfl, if_pos (by omega)]
      exact ih H (by omega) (by omega) hH k hk'
    | false =>
      rw [honF, if_neg (by rw [hc]; decide)] at hH
      have hH' : (H ++ [(i : Int)]) ++ honF F d (i + 1) = honF F n 0 := by rw [List.append_assoc]; exact hH
      rw [if_neg (show ¬ (false = true) by decide), if_pos (by omega), Option.bind_some]
      by_cases hi : (i : Int) < (L0.length : Int)
      · have hv : lineV F L0 i = cutV (rdOf ByteArray.empty L0 (i : Int)) := by unfold lineV; rw [if_neg (by rw [hc]; decide), if_pos hi]
        rw [linesV_succ, hv] at ih
        rw [if_pos hi, if_pos (by omega), rcut_eq, Option.bind_some, if_pos (by omega)]
        exact ih _ (by omega) (by rw [List.length_append]; simp; omega) hH' k hk'
      · have hv : lineV F L0 i = (⟨#[]⟩ : ByteArray) := by unfold lineV; rw [if_neg (by rw [hc]; decide), if_neg hi]
        rw [linesV_succ, hv] at ih
        rw [if_neg hi, if_pos (by omega)]
        exact ih _ (by omega) (by rw [List.length_append]; simp; omega) hH' k hk'
theorem linesV_short (F : List Int) (L : List ByteArray) (n : Nat) : ∀ x ∈ linesV F L n, x.size ≤ 16 := fun x hx => by
  unfold linesV at hx
  obtain ⟨i, _, rfl⟩ := List.mem_map.1 hx
  exact lineV_size F L i
theorem rplay_eq (c : CF) (F : List Int) (first : Int) (mem : ByteArray) (L : List ByteArray) (lies : List (List DL)) (hF : F.length ≤ 100) (hG : ShortG lies) (k : Nat) (hk : 5000 ≤ k) : r38_Play.f k c.f0 c.f1 c.f2 c.f3 c.f4 c.f5 c.f6 c.f7 c.f8 c.f9 c.f10 F first mem L lies = some (if plainE c.f0 c.f1 c.f2 c.f3 c.f4 c.f5 c.f6 c.f7 c.f8 c.f9 c.f10 = 0 then (playN c first, playM c F mem, playL c F L, playG c F first L lies) else (0, (⟨#[]⟩ : ByteArray), [], [])) := by
  unfold r38_Play.f
  rw [ref_plain_eq (k := k) (hk := by omega), Option.bind_some]
  by_cases hp : plainE c.f0 c.f1 c.f2 c.f3 c.f4 c.f5 c.f6 c.f7 c.f8 c.f9 c.f10 = 0
  · have hP : PlC c := plain_iff.1 hp
    have hn := hP.n
    have hm := hP.m
    have hlen := hP.len
    have hl := honF_len F c.f0.toNat 0
    have hc0 : c.f0 = ((c.f0.toNat : Nat) : Int) := by omega
    rw [if_pos hp, if_pos hp, rmod_eq _ _ (by omega), Option.bind_some]
    refine rplay_l0 c F mem L lies (playN c first) c.f0.toNat hc0 (by omega) hF 4500 (by omega) _ (fun k' hk' => ?_) c.f0.toNat 0 [] (by omega) (by simp) (by rw [List.nil_append]) k (by omega)
    rw [rmark25_eq c mem _ (by omega) k' (by omega), Option.bind_some]
    exact rplay_l1 c F lies (playL c F L) (playN c first) (playM c F mem) c.f0.toNat hc0 (by omega) hF hG (linesV_short F L _) (tb_own hP F L) (by omega) c.f0.toNat 0 (by omega) k' (by omega)
  · rw [if_neg hp, if_neg hp]
theorem same24_l0 (l : List DL) (hl : l.length ≤ 100000) : ∀ (d k j : Nat), j + d = l.length → d + 1 ≤ k → r24_Same.l0 k l l (j : Int) = some true
  | 0, k, j, h, hk => by
    obtain ⟨k, rfl, _⟩ := peel (show 0 + 1 ≤ k by omega)
    rw [r24_Same.l0, if_neg (by omega)]
  | d + 1, k, j, h, hk => by
    obtain ⟨k, rfl, hk'⟩ := peel (show d + 1 + 1 ≤ k by omega)
    rw [r24_Same.l0, if_pos (by omega), if_pos (by omega), if_pos (by omega), if_neg (by simp), w64_step (by omega)]
    exact same24_l0 l hl d k (j + 1) (by omega) hk'
theorem same24_eq (l : List DL) (hl : l.length ≤ 100000) (k : Nat) (hk : l.length + 1 ≤ k) : r24_Same.f k l l = some true := by
  unfold r24_Same.f
  rw [if_pos rfl]
  exact same24_l0 l hl l.length k 0 (by omega) hk
theorem same_l1 (a : Int) (b : ByteArray) (L : List ByteArray) (G : List (List DL)) (hG : G.length ≤ 1000) (hg : ∀ l ∈ G, l.length ≤ 1000) : ∀ (d k j : Nat), j + d = G.length → d + 1002 ≤ k → r38_Same.l1 k (j : Int) a b L G a b L G = some true
  | 0, k, j, h, hk => by
    obtain ⟨k, rfl, _⟩ := peel (show 0 + 1 ≤ k by omega)
    rw [r38_Same.l1, if_neg (by omega)]
  | d + 1, k, j, h, hk => by
    obtain ⟨k, rfl, hk'⟩ := peel (show d + 1002 + 1 ≤ k by omega)
    have hj : j < G.length := by omega
    have := hg _ (List.getElem_mem hj)
    rw [r38_Same.l1, if_pos (by omega), if_pos (by omega), if_pos (by omega), rd_got G j hj, same24_eq _ (by omega) k (by omega), Option.bind_some, if_pos rfl, w64_step (by omega)]
    exact same_l1 a b L G hG hg d k (j + 1) (by omega) hk'
theorem same_l0 (a : Int) (b : ByteArray) (L : List ByteArray) (G : List (List DL)) (hL : L.length ≤ 1000) (hG : G.length ≤ 1000) (hg : ∀ l ∈ G, l.length ≤ 1000) : ∀ (d k j : Nat), j + d = L.length → d + 3000 ≤ k → r38_Same.l0 k (j : Int) a b L G a b L G = some true
  | 0, k, j, h, hk => by
    obtain ⟨k, rfl, _⟩ := peel (show 2999 + 1 ≤ k by omega)
    rw [r38_Same.l0, if_neg (by omega)]
    exact same_l1 a b L G hG hg G.length k 0 (by omega) (by omega)
  | d + 1, k, j, h, hk => by
    obtain ⟨k, rfl, hk'⟩ := peel (show d + 3000 + 1 ≤ k by omega)
    rw [r38_Same.l0, if_pos (by omega), if_pos (by omega), if_pos (by omega), if_pos rfl, w64_step (by omega)]
    exact same_l0 a b L G hL hG hg d k (j + 1) (by omega) hk'
theorem same_eq (a : Int) (b : ByteArray) (L : List ByteArray) (G : List (List DL)) (hL : L.length ≤ 1000) (hG : G.length ≤ 1000) (hg : ∀ l ∈ G, l.length ≤ 1000) (k : Nat) (hk : 5000 ≤ k) : r38_Same.f k a b L G a b L G = some true := by
  obtain ⟨k, rfl, hk'⟩ := peel (show 4999 + 1 ≤ k by omega)
  unfold r38_Same.f
  rw [if_pos rfl, if_pos rfl, if_pos rfl, r38_Same.j0, if_neg (by simp)]
  exact same_l0 a b L G hL hG hg L.length k 0 (by omega) (by omega)
theorem playG_short {c : CF} (hp : PlC c) (F : List Int) (first : Int) (L : List ByteArray) (lies : List (List DL)) : ∀ l ∈ playG c F first L lies, l.length ≤ 1000 := fun l hl => by
  unfold playG gotsV at hl
  obtain ⟨i, _, rfl⟩ := List.mem_map.1 hl
  have := hp.len
  unfold gotV
  split
  · exact Nat.zero_le _
  · have := delV_len F (mineV lies i) (playL c F L) (playN c first) c.f10 c.f10.length 0
    omega
/-- Lines and lists that are few enough. -/
structure FewR (L : List ByteArray) (G : List (List DL)) : Prop where
  l : L.length ≤ 40
  g : ShortG G
theorem few38_l0 (G : List (List DL)) (hG : G.length ≤ 40) : ∀ (d j : Nat), j + d = G.length → ∃ b, (∀ k, d + 1 ≤ k → r38_Few.l0 k G (j : Int) = some b) ∧ (b = true → ∀ l ∈ G.drop j, l.length ≤ 100)
  | 0, j, h => by
    refine ⟨true, fun k hk => ?_, fun _ l hl => ?_⟩
    · obtain ⟨k, rfl, _⟩ := peel (show 0 + 1 ≤ k by omega)
      rw [r38_Few.l0, if_neg (by omega)]
    · rw [List.drop_of_length_le (by omega)] at hl
      cases hl
  | d + 1, j, h => by
    have hj : j < G.length := by omega
    obtain ⟨b, h1, h2⟩ := few38_l0 G hG d (j + 1) (by omega)
    by_cases hb : ((G[j].length : Nat) : Int) > 100
    · refine ⟨false, fun k hk => ?_, fun e => by cases e⟩
      obtain ⟨k, rfl, hk'⟩ := peel (show d + 1 + 1 ≤ k by omega)
      rw [r38_Few.l0, if_pos (by omega), if_pos (by omega), rd_got G j hj, if_pos hb]
    · refine ⟨b, fun k hk => ?_, fun e l hl => ?_⟩
      · obtain ⟨k, rfl, hk'⟩ := peel (show d + 1 + 1 ≤ k by omega)
        rw [r38_Few.l0, if_pos (by omega), if_pos (by omega), rd_got G j hj, if_neg hb, w64_step (by omega)]
        exact h1 k hk'
      · rw [List.drop_eq_getElem_cons hj] at hl
        rcases List.mem_cons.1 hl with e' | e'
        · rw [e']; omega
        · exact h2 e l e'
theorem few38_eq (L : List ByteArray) (G : List (List DL)) (k : Nat) (hk : 100 ≤ k) : ∃ b, r38_Few.f k L G = some b ∧ (b = true → FewR L G) := by
  obtain ⟨k, rfl, hk'⟩ := peel (show 99 + 1 ≤ k by omega)
  unfold r38_Few.f
  by_cases h0 : (L.length : Int) > 40
  · exact ⟨false, by rw [if_pos h0, r38_Few.j0, if_pos rfl], fun e => by cases e⟩
  by_cases h1 : (G.length : Int) > 40
  · exact ⟨false, by rw [if_neg h0, decide_eq_true h1, r38_Few.j0, if_pos rfl], fun e => by cases e⟩
  obtain ⟨b, h2, h3⟩ := few38_l0 G (by omega) G.length 0 (by omega)
  exact ⟨b, by rw [if_neg h0, decide_eq_false h1, r38_Few.j0, if_neg (by decide)]; exact h2 k (by omega), fun e => ⟨by omega, by omega, h3 e⟩⟩
/-- Is a number behind another one. -/
def folV (c : CF) (a b : Int) : Bool := decide (plainE c.f0 c.f1 c.f2 c.f3 c.f4 c.f5 c.f6 c.f7 c.f8 c.f9 c.f10 = 0) && (apartV c.f8 a b == 1)
theorem follows_eq (c : CF) (a : Int) (a1 : ByteArray) (a2 : List ByteArray) (a3 : List (List DL)) (b : Int) (b1 : ByteArray) (b2 : List ByteArray) (b3 : List (List DL)) (k : Nat) (hk : 9 ≤ k) : round_Follows.f k c.f0 c.f1 c.f2 c.f3 c.f4 c.f5 c.f6 c.f7 c.f8 c.f9 c.f10 a a1 a2 a3 b b1 b2 b3 = some (folV c a b) := by
  unfold round_Follows.f folV
  rw [plain_eq k (by omega), Option.bind_some, apart_eq (k := k) (hk := hk)]
  by_cases hp : plainE c.f0 c.f1 c.f2 c.f3 c.f4 c.f5 c.f6 c.f7 c.f8 c.f9 c.f10 = 0
  · rw [if_pos hp, if_pos hp, decide_eq_true hp]
    rfl
  · rw [if_neg hp, decide_eq_false hp]
    rfl
theorem rfollows_eq (c : CF) (a : Int) (a1 : ByteArray) (a2 : List ByteArray) (a3 : List (List DL)) (b : Int) (b1 : ByteArray) (b2 : List ByteArray) (b3 : List (List DL)) (k : Nat) (hk : 700 ≤ k) : r38_Follows.f k c.f0 c.f1 c.f2 c.f3 c.f4 c.f5 c.f6 c.f7 c.f8 c.f9 c.f10 a a1 a2 a3 b b1 b2 b3 = some (folV c a b) := by
  unfold r38_Follows.f folV
  rw [ref_plain_eq (k := k) (hk := hk), Option.bind_some, rapart_eq (k := k) (hk := hk)]
  by_cases hp : plainE c.f0 c.f1 c.f2 c.f3 c.f4 c.f5 c.f6 c.f7 c.f8 c.f9 c.f10 = 0
  · rw [if_pos hp, if_pos hp, decide_eq_true hp]
    rfl
  · rw [if_neg hp, decide_eq_false hp]
    rfl
end Go.Proofs.Ytdnccjlfongdeaa.Facts
