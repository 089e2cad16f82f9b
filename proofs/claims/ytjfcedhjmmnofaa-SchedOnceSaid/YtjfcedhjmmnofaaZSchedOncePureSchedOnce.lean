import Derived.Test.YtjfcedhjmmnofaaZSchedOnceStmtSchedOnce
import Derived.Test.YtjfcedhjmmnofaaZSchedOnceDueFacts
namespace Go.Proofs.Ytjfcedhjmmnofaa.Pure
open Go.RowKit Go.Proofs.Ytjfcedhjmmnofaa.Gn Go.Proofs.YtjfcedhjmmnofaaW.PrintWords Go.Proofs.YtjfcedhjmmnofaaW.PrintLast Go.Proofs.Ytjfcedhjmmnofaa.Facts Go.Proofs.Ytjfcedhjmmnofaa.Opens
set_option linter.unusedVariables false
theorem bt_in (s : ByteArray) (i : Nat) (h : i < s.size) : bt s (i : Int) = (s[i].toNat : Int) := by
  unfold bt
  rw [dif_pos (show (i : Int).toNat < s.size from by simpa using h)]
  rfl
theorem bt_out (s : ByteArray) (i : Nat) (h : ¬ i < s.size) : bt s (i : Int) = 0 := by
  unfold bt
  rw [dif_neg (show ¬ (i : Int).toNat < s.size from by simpa using h)]
theorem bt_left (a b : ByteArray) (i : Nat) (h : i < a.size) : bt (a ++ b) (i : Int) = bt a (i : Int) := by
  rw [bt_in _ i (by rw [ByteArray.size_append]; omega), bt_in _ i h, ByteArray.getElem_append_left h]
theorem bt_right (a b : ByteArray) (i : Nat) : bt (a ++ b) ((a.size + i : Nat) : Int) = bt b (i : Int) := by
  by_cases h : i < b.size
  · rw [bt_in _ _ (by rw [ByteArray.size_append]; omega), bt_in _ i h, ByteArray.getElem_append_right (by omega)]
    congr 3
    omega
  · rw [bt_out _ _ (by rw [ByteArray.size_append]; omega), bt_out _ i h]
theorem bt_head (s : ByteArray) (n i : Nat) (hn : n ≤ s.size) (h : i < n) : bt (s.extract 0 n) (i : Int) = bt s (i : Int) := by
  rw [bt_in _ i (by rw [ByteArray.size_extract]; omega), bt_in _ i (by omega), ByteArray.getElem_extract]
  congr 3
  omega
theorem bt_tail (s : ByteArray) (m i : Nat) : bt (s.extract m s.size) (i : Int) = bt s ((m + i : Nat) : Int) := by
  by_cases h : m + i < s.size
  · rw [bt_in _ i (by rw [ByteArray.size_extract]; omega), bt_in _ _ h, ByteArray.getElem_extract]
  · rw [bt_out _ i (by rw [ByteArray.size_extract]; omega), bt_out _ _ h]
theorem marks_l0 (at_ : Nat) (hat : at_ ≤ 1000) : ∀ (d k : Nat) (s : ByteArray), at_ + 1 - s.size = d → s.size ≤ 1001 → d + 1 ≤ k → ∃ r, bellwetherlaw21_marks.l0 k s (at_ : Int) = some r ∧ r.size ≤ 1001 ∧ ∀ i : Nat, (bt r (i : Int) == 49) = (decide (i = at_) || bt s (i : Int) == 49)
  | 0, k, s, hd, hs, hk => by
    obtain ⟨k, rfl, _⟩ := peel hk
    have e1 : (s.extract 0 at_).size = at_ := by rw [ByteArray.size_extract]; omega
    have e2 : (s.extract (at_ + 1) s.size).size = s.size - (at_ + 1) := by rw [ByteArray.size_extract]; omega
    have e3 : ((s.extract 0 at_) ++ (⟨#[49]⟩ : ByteArray)).size = at_ + 1 := by rw [ByteArray.size_append, e1]; rfl
    refine ⟨((s.extract 0 at_) ++ (⟨#[49]⟩ : ByteArray)) ++ (s.extract (at_ + 1) s.size), ?_, by rw [ByteArray.size_append, e3, e2]; omega, fun i => ?_⟩
    · rw [bellwetherlaw21_marks.l0, if_neg (by omega), if_pos (by omega), if_pos (by omega), Int.toNat_natCast, e1, if_pos (by omega), w64_step (by omega), if_pos (by omega), if_pos (by omega), Int.toNat_natCast, e3, e2, if_pos (by omega)]
    · by_cases h1 : i < at_
      · rw [bt_left _ _ i (by rw [e3]; omega), bt_left _ _ i (by rw [e1]; omega), bt_head s at_ i (by omega) h1, decide_eq_false (by omega), Bool.false_or]
      · by_cases h2 : i = at_
        · rw [bt_left _ _ i (by rw [e3]; omega), show i = (s.extract 0 at_).size + 0 from by omega, bt_right, decide_eq_true (by omega), Bool.true_or]
          rfl
        · rw [show ((i : Nat) : Int) = ((((s.extract 0 at_) ++ (⟨#[49]⟩ : ByteArray)).size + (i - (at_ + 1)) : Nat) : Int) from by rw [e3]; omega, bt_right, bt_tail, show at_ + 1 + (i - (at_ + 1)) = i from by omega, e3, show at_ + 1 + (i - (at_ + 1)) = i from by omega, decide_eq_false h2, Bool.false_or]
  | d + 1, k, s, hd, hs, hk => by
    obtain ⟨k, rfl, hk'⟩ := peel hk
    have e1 : (s ++ (⟨#[48]⟩ : ByteArray)).size = s.size + 1 := by rw [ByteArray.size_append]; rfl
    obtain ⟨r, hr, hrs, hb⟩ := marks_l0 at_ hat d k (s ++ (⟨#[48]⟩ : ByteArray)) (by rw [e1]; omega) (by rw [e1]; omega) hk'
    refine ⟨r, by rw [bellwetherlaw21_marks.l0, if_pos (by omega), if_pos (by omega), hr], hrs, fun i => ?_⟩
    rw [hb i]
    congr 1
    by_cases h1 : i < s.size
    · rw [bt_left _ _ i h1]
    · rw [bt_out s i h1]
      by_cases h2 : i = s.size
      · rw [show i = s.size + 0 from by omega, bt_right]
        rfl
      · rw [bt_out _ i (by rw [e1]; omega)]
theorem ownedL_rise (l : List Int) (node : Int) : ∀ k, (ownedL l node k).Pairwise (· < ·)
  | 0 => List.Pairwise.nil
  | k + 1 => by
    rw [ownedL]
    split
    · rw [List.pairwise_append]
      refine ⟨ownedL_rise l node k, List.pairwise_singleton _ _, fun a ha b hb => ?_⟩
      obtain rfl := List.mem_singleton.1 hb
      exact (ownedL_is ha).2.1
    · exact ownedL_rise l node k
theorem firstB_none {p : Int → Bool} : ∀ {L : List Int}, (∀ y ∈ L, p y = false) → firstB p L = -1
  | [], _ => rfl
  | y :: L, h => by
    rw [firstB, h y (List.mem_cons_self ..), if_neg (by decide)]
    exact firstB_none fun z hz => h z (List.mem_cons_of_mem _ hz)
theorem firstB_at {p : Int → Bool} {x : Int} {r : List Int} (hx : p x = true) : ∀ {ys : List Int}, (∀ y ∈ ys, p y = false) → firstB p (ys ++ x :: r) = x
  | [], _ => by rw [List.nil_append, firstB, if_pos hx]
  | y :: ys, h => by
    rw [List.cons_append, firstB, h y (List.mem_cons_self ..), if_neg (by decide)]
    exact firstB_at hx fun z hz => h z (List.mem_cons_of_mem _ hz)
theorem units21_in {c0 c1 c2 c3 c4 c5 c6 c7 c8 c9 : Int} {l : List Int} (h : Plain c0 c1 c2 c3 c4 c5 c6 c7 c8 c9 l) (x : List Int) {t : Int} (ht : 0 ≤ t) : ∃ u, bellwetherlaw21_units.f c0 c1 c2 c3 c4 c5 c6 c7 c8 c9 l x t = some u ∧ c4 - c5 ≤ u ∧ u ≤ c4 + c5 := by
  have hd := h.dr
  unfold bellwetherlaw21_units.f
  by_cases g : t ≥ (x.length : Int)
  · rw [if_pos g]
    exact ⟨_, rfl, by omega, by omega⟩
  · rw [if_neg g, if_pos ht, if_pos (by omega), slow_w h, fast_w h]
    refine ⟨_, rfl, ?_, ?_⟩
    · unfold mx; split <;> omega
    · unfold mx mn; split <;> split at * <;> omega
section
variable {c0 c1 c2 c3 c4 c5 c6 c7 c8 c9 : Int} {l : List Int} (h : Plain c0 c1 c2 c3 c4 c5 c6 c7 c8 c9 l) (hR : RightP c2 c3 c4 c5 c6 c7 l.length) (node : Int)
include h hR
theorem wide_gap : c4 + c5 ≤ c7 := by
  have hr := h.r
  have hdr := h.dr
  have hd := h.d
  have ab := apart_bd h
  have q0 : 0 ≤ (2 * c5 * middleV c6 c7 (l.length - 1) + (c4 - c5) - 1) / (c4 - c5) := Int.ediv_nonneg (by omega) (by omega)
  have e1 : (c2 + 1) * c5 = c2 * c5 + c5 := by rw [Int.add_mul, Int.one_mul]
  have b2 : 0 ≤ c2 * c5 := Int.mul_nonneg (by omega) (by omega)
  have gd : guardV c2 c4 c5 c6 c7 l.length = (2 * c5 * middleV c6 c7 (l.length - 1) + (c4 - c5) - 1) / (c4 - c5) + c4 + (c2 + 1) * c5 := rfl
  have := hR.1
  omega
theorem mid_gap {a b : Int} (hab : a < b) : middleV c6 c7 a + c7 ≤ middleV c6 c7 b := by
  have _r := hR
  have h7 := h.s
  have := Int.mul_le_mul_of_nonneg_right (show a + 1 ≤ b by omega) (show 0 ≤ c7 by omega)
  rw [Int.add_mul, Int.one_mul] at this
  unfold middleV
  omega
/-- What is known of what was sent: just the first slots. -/
def SentIs (L : List Int) (n : Nat) (s : ByteArray) : Prop := ∀ y, y ∈ L → sentV s y = decide (y ∈ L.take n)
theorem sentV_bt (s : ByteArray) {y : Int} (hy : 0 ≤ y) : sentV s y = (bt s y == 49) := by
  have _k := h
  have _r := hR
  unfold sentV
  obtain ⟨i, rfl⟩ := Int.eq_ofNat_of_zero_le hy
  by_cases c : i < s.size
  · rw [decide_eq_true (show (i : Int) < (s.size : Int) by omega), Bool.true_and]
  · rw [decide_eq_false (show ¬ (i : Int) < (s.size : Int) by omega), bt_out s i c]
    rfl
theorem due_at (L : List Int) (hL : L = ownedL l node l.length) (n : Nat) (s : ByteArray) (e : Int) (hs : SentIs L n s) (hn : n < L.length) (he : e < middleV c6 c7 L[n] + c4 + c5) :
    firstB (dueV c4 c5 c6 c7 e s) L = if middleV c6 c7 L[n] ≤ e then L[n] else -1 := by
  have hri := ownedL_rise l node l.length
  rw [← hL] at hri
  have hw := wide_gap h hR
  have sent : ∀ y ∈ L.take n, dueV c4 c5 c6 c7 e s y = false := fun y hy => by
    unfold dueV
    rw [hs y (List.mem_of_mem_take hy), decide_eq_true hy]
    simp
  have later : ∀ y ∈ L.drop (n + 1), dueV c4 c5 c6 c7 e s y = false := fun y hy => by
    obtain ⟨i, hi, rfl⟩ := List.getElem_of_mem hy
    rw [List.getElem_drop]
    have hlt : L[n] < L[n + 1 + i]'(by simp at hi; omega) := List.pairwise_iff_getElem.1 hri n (n + 1 + i) hn (by simp at hi; omega) (by omega)
    have := mid_gap h hR hlt
    unfold dueV
    rw [decide_eq_false (by omega)]
    rfl
  have split_ : L = L.take n ++ L[n] :: L.drop (n + 1) := by
    rw [← List.drop_eq_getElem_cons hn, List.take_append_drop]
  have notin : L[n] ∉ L.take n := fun hy => by
    obtain ⟨i, hi, e1⟩ := List.getElem_of_mem hy
    rw [List.getElem_take] at e1
    have hi' : i < n := by simp at hi; omega
    have := List.pairwise_iff_getElem.1 hri i n (by omega) hn hi'
    omega
  have own : dueV c4 c5 c6 c7 e s L[n] = decide (middleV c6 c7 L[n] ≤ e) := by
    unfold dueV
    rw [hs L[n] (List.getElem_mem hn), decide_eq_false notin, Bool.not_false, Bool.and_true]
    rw [Bool.eq_iff_iff, decide_eq_true_iff, decide_eq_true_iff]
    omega
  by_cases c : middleV c6 c7 L[n] ≤ e
  · rw [if_pos c]
    rw [decide_eq_true c] at own
    have := firstB_at (r := L.drop (n + 1)) own sent
    rw [← split_] at this
    exact this
  · rw [if_neg c]
    rw [decide_eq_false c] at own
    refine firstB_none fun y hy => ?_
    rw [split_] at hy
    rcases List.mem_append.1 hy with hy | hy
    · exact sent y hy
    · rcases List.mem_cons.1 hy with rfl | hy
      · exact own
      · exact later y hy
theorem due_end (L : List Int) (n : Nat) (s : ByteArray) (e : Int) (hs : SentIs L n s) (hn : L.length ≤ n) : firstB (dueV c4 c5 c6 c7 e s) L = -1 := by
  have _k := h
  have _r := hR
  refine firstB_none fun y hy => ?_
  unfold dueV
  rw [hs y hy, List.take_of_length_le hn, decide_eq_true hy]
  simp
theorem once_l0 (x L : List Int) (hL : L = ownedL l node l.length) : ∀ (d k n : Nat) (s : ByteArray) (e t : Int), t + d = c3 → 0 ≤ t → n ≤ L.length → 2 * d + 1400 ≤ k → s.size ≤ 1001 → SentIs L n s → (c4 - c5) * t ≤ e → e ≤ (c4 + c5) * t → (∀ hn : n < L.length, e < middleV c6 c7 L[n] + c4 + c5 ∧ (t = 0 ∨ (c4 - c5) * (t - 1) < middleV c6 c7 L[n])) →
    bellwetherlaw21_SchedOnce.l0 k node x L s (n : Int) e t c0 c1 c2 c3 c4 c5 c6 c7 c8 c9 l = some true
  | 0, k, n, s, e, t, hd, ht, hnL, hk, hs, hS, e1, e2, hI => by
    obtain ⟨k, rfl, _⟩ := peel (m := 1399) (by omega)
    have hn : n = L.length := by
      by_cases c : n < L.length
      · obtain ⟨_, i2⟩ := hI c
        have hp0 := h.p0
        have hr := h.r
        have hdr := h.dr
        have hdd := h.d
        have gb := guard_bd h
        have h7 := h.s
        have b1 := mul_bd (x := c2) (y := c4) (a := 4) (b := 64) ⟨by omega, by omega⟩ ⟨by omega, by omega⟩
        have g2 := hR.2.1
        have hmem := List.getElem_mem c
        have hy := ownedL_is (l := l) (node := node) (m := l.length) (y := L[n]) (by rw [← hL]; exact hmem)
        have ml : middleV c6 c7 L[n] ≤ middleV c6 c7 (l.length - 1) := by
          have := Int.mul_le_mul_of_nonneg_right (show L[n] ≤ (l.length : Int) - 1 by omega) (show 0 ≤ c7 by omega)
          unfold middleV
          omega
        have e3 : (c4 - c5) * (t - 1) = (c3 - 1) * (c4 - c5) := by rw [show t = c3 from by omega, Int.mul_comm]
        omega
      · omega
    rw [bellwetherlaw21_SchedOnce.l0, if_neg (by omega), if_pos (by omega), known21 k (by omega)]
    rfl
  | d + 1, k, n, s, e, t, hd, ht, hnL, hk, hs, hS, e1, e2, hI => by
    obtain ⟨k, rfl, hk1⟩ := peel (m := 2 * d + 1401) (by omega)
    have hp := h.p
    have hr := h.r
    have hdr := h.dr
    have hl := h.len
    have hpl := plain_iff.2 h
    have hw := wide_gap h hR
    have hlen := ownedL_len l node l.length
    rw [← hL] at hlen
    obtain ⟨u, hu, u1, u2⟩ := units21_in h x ht
    have bt1 := mul_bd (x := c4 + c5) (y := t) (a := 128) (b := 400) ⟨by omega, by omega⟩ ⟨by omega, by omega⟩
    have bt0 : 0 ≤ (c4 - c5) * t := Int.mul_nonneg (by omega) ht
    have es : (c4 - c5) * (t + 1) = (c4 - c5) * t + (c4 - c5) := by rw [Int.mul_add, Int.mul_one]
    have ef : (c4 + c5) * (t + 1) = (c4 + c5) * t + (c4 + c5) := by rw [Int.mul_add, Int.mul_one]
    have et : (c4 - c5) * (t + 1 - 1) = (c4 - c5) * t := by rw [show t + 1 - 1 = t from by omega]
    have hdue : ∀ s', dueR c0 c1 c2 c3 c4 c5 c6 c7 c8 c9 l node e s' = firstB (dueV c4 c5 c6 c7 e s') L := fun s' => by
      unfold dueR
      rw [if_pos hpl, hL]
    have pass : firstB (dueV c4 c5 c6 c7 e s) L = -1 → (∀ hn : n < L.length, e < middleV c6 c7 L[n]) → bellwetherlaw21_SchedOnce.l0 (k + 1) node x L s (n : Int) e t c0 c1 c2 c3 c4 c5 c6 c7 c8 c9 l = some true := fun hf hlt => by
      rw [bellwetherlaw21_SchedOnce.l0, if_pos (by omega), due_eq _ _ _ _ _ _ _ _ _ _ _ _ _ _ k (by omega), Option.bind_some, hdue, hf, if_neg (by decide), hu, Option.bind_some, w64 (a := e + u) (by omega), w64 (a := t + 1) (by omega)]
      exact once_l0 x L hL d k n s (e + u) (t + 1) (by omega) (by omega) hnL (by omega) hs hS (by omega) (by omega) (fun hn => ⟨by have := hlt hn; omega, Or.inr (by rw [et]; have := hlt hn; omega)⟩)
    by_cases hn : n < L.length
    · obtain ⟨i1, i2⟩ := hI hn
      have hd1 := due_at h hR node L hL n s e hS hn i1
      by_cases c : middleV c6 c7 L[n] ≤ e
      · rw [if_pos c] at hd1
        obtain ⟨k, rfl, hk2⟩ := peel (m := 2 * d + 1400) (by omega)
        have hmem := List.getElem_mem hn
        have hy := ownedL_is (l := l) (node := node) (m := l.length) (y := L[n]) (by rw [← hL]; exact hmem)
        obtain ⟨q, hq⟩ := Int.eq_ofNat_of_zero_le hy.1
        obtain ⟨s', hm, hs', hb⟩ := marks_l0 q (by omega) _ k s rfl hs (by omega)
        have hm' : bellwetherlaw21_marks.f k s L[n] = some s' := by unfold bellwetherlaw21_marks.f; rw [hq]; exact hm
        have hS' : SentIs L (n + 1) s' := fun y hyL => by
          have hy2 := ownedL_is (l := l) (node := node) (m := l.length) (y := y) (by rw [← hL]; exact hyL)
          obtain ⟨i, rfl⟩ := Int.eq_ofNat_of_zero_le hy2.1
          have hSy := hS _ hyL
          rw [sentV_bt h hR _ hy2.1] at hSy ⊢
          rw [hb i, hSy, Bool.eq_iff_iff, Bool.or_eq_true, decide_eq_true_iff, decide_eq_true_iff, decide_eq_true_iff, List.take_add_one, List.getElem?_eq_getElem hn, List.mem_append]
          simp only [Option.toList_some, List.mem_singleton, hq]
          constructor
          · rintro (a | a)
            · exact Or.inr (by rw [a])
            · exact Or.inl a
          · rintro (a | a)
            · exact Or.inr a
            · exact Or.inl (by omega)
        have next : ∀ hn' : n + 1 < L.length, e < middleV c6 c7 L[n + 1] := fun hn' => by
          have hri := ownedL_rise l node l.length
          rw [← hL] at hri
          have hlt : L[n] < L[n + 1] := List.pairwise_iff_getElem.1 hri n (n + 1) hn hn' (by omega)
          have := mid_gap h hR hlt
          omega
        have hd2 : firstB (dueV c4 c5 c6 c7 e s') L = -1 := by
          by_cases hn' : n + 1 < L.length
          · rw [due_at h hR node L hL (n + 1) s' e hS' hn' (by have := next hn'; omega), if_neg (by have := next hn'; omega)]
          · exact due_end h hR L (n + 1) s' e hS' (by omega)
        rw [bellwetherlaw21_SchedOnce.l0, if_pos (by omega), due_eq _ _ _ _ _ _ _ _ _ _ _ _ _ _ (k + 1) (by omega), Option.bind_some, hdue, hd1, if_pos hy.1, if_neg (by omega), if_pos (by omega), if_pos (by omega), rd_at L n hn, bne_self_eq_false, bellwetherlaw21_SchedOnce.j1, if_neg (by decide), hm', Option.bind_some, due_eq _ _ _ _ _ _ _ _ _ _ _ _ _ _ k (by omega), Option.bind_some, hdue, hd2, if_pos rfl, hu, Option.bind_some, w64_step (by omega), w64 (a := e + u) (by omega), w64 (a := t + 1) (by omega)]
        exact once_l0 x L hL d k (n + 1) s' (e + u) (t + 1) (by omega) (by omega) (by omega) (by omega) hs' hS' (by omega) (by omega) (fun hn' => ⟨by have := next hn'; omega, Or.inr (by rw [et]; have := next hn'; omega)⟩)
      · rw [if_neg c] at hd1
        exact pass hd1 (fun _ => by omega)
    · exact pass (due_end h hR L n s e hS (by omega)) (fun hn' => absurd hn' hn)
end
theorem SchedOnce : Gn.SchedOnce.Pure := by
  intro c node x _ _ _
  refine ⟨4000, ?_⟩
  unfold bellwetherlaw21_SchedOnce.f
  rw [ref_right_eq _ _ _ _ _ _ _ _ _ _ _ 4000 (by omega), Option.bind_some]
  by_cases hr : rightE c.f0 c.f1 c.f2 c.f3 c.f4 c.f5 c.f6 c.f7 c.f8 c.f9 c.f10 = 0
  · rw [if_pos hr, rowned_eq _ _ _ _ _ _ _ _ _ _ _ _ 4000 (by omega), Option.bind_some]
    unfold rightE at hr
    by_cases hp : plainE c.f0 c.f1 c.f2 c.f3 c.f4 c.f5 c.f6 c.f7 c.f8 c.f9 c.f10 = 0
    · rw [if_pos hp] at hr
      by_cases hR : RightP c.f2 c.f3 c.f4 c.f5 c.f6 c.f7 c.f10.length
      · have h := plain_iff.1 hp
        have hpp := h.p
        have hp0 := h.p0
        have hr' := h.r
        have hd' := h.dr
        have h6 := h.o
        have h7 := h.s
        obtain ⟨E, hE⟩ := Int.eq_ofNat_of_zero_le (show 0 ≤ c.f3 by omega)
        rw [if_pos hp]
        refine once_l0 h hR node x _ rfl E 4000 0 ⟨#[]⟩ 0 0 (by omega) (by omega) (by omega) (by omega) (by decide) (fun y hy => ?_) (by omega) (by omega) (fun hn => ⟨?_, Or.inl rfl⟩)
        · have := ownedL_is hy
          unfold sentV
          rw [decide_eq_false (show ¬ y < ((⟨#[]⟩ : ByteArray).size : Int) from by show ¬ y < (0 : Int); omega)]
          simp
        · have hy := ownedL_is (List.getElem_mem hn)
          have := middle_bd h ⟨hy.1, hy.2.1⟩
          omega
      · rw [if_neg hR] at hr
        omega
    · rw [if_neg hp] at hr
      exact absurd hr hp
  · rw [if_neg hr, known21 4000 (by omega)]
    rfl
end Go.Proofs.Ytjfcedhjmmnofaa.Pure
