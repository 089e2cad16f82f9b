import Derived.Test.YtdnccjlfongdeaaZRoundOnlyGn0
import Derived.Test.YtdnccjlfongdeaaZRoundOnlyRoundFits
namespace Go.Proofs.Ytdnccjlfongdeaa.Facts
open Go.RowKit Go.Proofs.Ytdnccjlfongdeaa.Gn Go.Proofs.YtdnccjlfongdeaaW.PrintWords Go.Proofs.YtdnccjlfongdeaaW.PrintLast
open FactsM (markV cl cl_id)
set_option linter.unusedVariables false
set_option linter.unusedSimpArgs false
theorem msg_zero {c : CF} {F : List Int} {num : Int} {L : List ByteArray} {d : DL} {last : Int} (h0 : last < d.f1) (h1 : d.f1 < (c.f10.length : Int)) (h2 : d.f0 = rd c.f10 d.f1) (h3 : d.f2 = num) (h4 : d.f3.size ≤ 16) (h5 : F.contains d.f0 = true ∨ d.f3.toList = (rdOf ByteArray.empty L d.f0).toList) : msgV c F num L d last = 0 := by
  unfold msgV
  rw [if_neg (by omega), if_pos h2, if_pos h3, if_neg (by omega)]
  rcases h5 with h | h
  · rw [if_pos h]
  · rw [if_pos h, ite_self]
theorem late_iff (c : CF) (F : List Int) (l : List DL) : ∀ d i : Nat, lateV c F l d i = 0 ↔ ∀ j, i ≤ j → j < i + d → F.contains (rd c.f10 (j : Int)) = false → (j : Int) ∈ l.map (·.f1)
  | 0, i => ⟨fun _ j h1 h2 => by omega, fun _ => rfl⟩
  | d + 1, i => by
    have ih := late_iff c F l d (i + 1)
    rw [lateV]
    by_cases h0 : (l.map (·.f1)).contains (i : Int) = true
    · rw [if_pos h0, ih]
      constructor
      · intro h j hj hj' hc
        by_cases e : j = i
        · rw [e]; exact List.contains_iff_mem.1 h0
        · exact h j (by omega) (by omega) hc
      · intro h j hj hj' hc
        exact h j (by omega) (by omega) hc
    · rw [if_neg h0]
      by_cases h1 : F.contains (rd c.f10 (i : Int)) = true
      · rw [if_pos h1, ih]
        constructor
        · intro h j hj hj' hc
          by_cases e : j = i
          · rw [e, h1] at hc; cases hc
          · exact h j (by omega) (by omega) hc
        · intro h j hj hj' hc
          exact h j (by omega) (by omega) hc
      · rw [if_neg h1]
        constructor
        · intro h; omega
        · intro h
          exact absurd (List.contains_iff_mem.2 (h i (by omega) (by omega) (Bool.eq_false_iff.2 h1))) h0
theorem fitB_iff (c : CF) (F : List Int) (num : Int) (L : List ByteArray) (G : List (List DL)) : ∀ d i : Nat, fitB c F num L G d i = 0 ↔ ∀ j, i ≤ j → j < i + d → F.contains (j : Int) = false → oneV c F num L (rd_L3 G (j : Int)) = 0
  | 0, i => ⟨fun _ j h1 h2 => by omega, fun _ => rfl⟩
  | d + 1, i => by
    have ih := fitB_iff c F num L G d (i + 1)
    rw [fitB]
    by_cases h0 : F.contains (i : Int) = true
    · rw [if_pos h0, ih]
      constructor
      · intro h j hj hj' hc
        by_cases e : j = i
        · rw [e, h0] at hc; cases hc
        · exact h j (by omega) (by omega) hc
      · intro h j hj hj' hc
        exact h j (by omega) (by omega) hc
    · rw [if_neg h0]
      by_cases h1 : oneV c F num L (rd_L3 G (i : Int)) = 0
      · rw [if_pos h1, ih]
        constructor
        · intro h j hj hj' hc
          by_cases e : j = i
          · rw [e]; exact h1
          · exact h j (by omega) (by omega) hc
        · intro h j hj hj' hc
          exact h j (by omega) (by omega) hc
      · rw [if_neg h1]
        constructor
        · intro h; exact absurd h h1
        · intro h
          exact h i (by omega) (by omega) (Bool.eq_false_iff.2 h0)
theorem sizB_iff (F : List Int) (L : List ByteArray) (G : List (List DL)) : ∀ d i : Nat, sizB F L G d i = true ↔ ∀ j, i ≤ j → j < i + d → (rdOf ByteArray.empty L (j : Int)).size ≤ 16 ∧ (F.contains (j : Int) = true → (rdOf ByteArray.empty L (j : Int)).toList = [] ∧ (rd_L3 G (j : Int)).length = 0)
  | 0, i => ⟨fun _ j h1 h2 => by omega, fun _ => rfl⟩
  | d + 1, i => by
    have ih := sizB_iff F L G d (i + 1)
    have key : sizB F L G (d + 1) i = true ↔ ((rdOf ByteArray.empty L (i : Int)).size ≤ 16 ∧ (F.contains (i : Int) = true → (rdOf ByteArray.empty L (i : Int)).toList = [] ∧ (rd_L3 G (i : Int)).length = 0)) ∧ sizB F L G d (i + 1) = true := by
      rw [sizB]
      by_cases h0 : ((rdOf ByteArray.empty L (i : Int)).size : Int) > 16
      · rw [if_pos h0]
        exact ⟨fun h => (by cases h), fun h => by have := h.1.1; omega⟩
      rw [if_neg h0]
      by_cases h1 : F.contains (i : Int) = true
      · rw [if_pos h1]
        by_cases h2 : (rdOf ByteArray.empty L (i : Int)).toList = ([] : List UInt8)
        · rw [if_pos h2]
          by_cases h3 : ((rd_L3 G (i : Int)).length : Int) > 0
          · rw [if_pos h3]
            exact ⟨fun h => (by cases h), fun h => by have := (h.1.2 h1).2; omega⟩
          · rw [if_neg h3]
            exact ⟨fun h => ⟨⟨by omega, fun _ => ⟨h2, by omega⟩⟩, h⟩, fun h => h.2⟩
        · rw [if_neg h2]
          exact ⟨fun h => (by cases h), fun h => absurd (h.1.2 h1).1 h2⟩
      · rw [if_neg h1]
        exact ⟨fun h => ⟨⟨by omega, fun h' => absurd h' h1⟩, h⟩, fun h => h.2⟩
    rw [key, ih]
    constructor
    · rintro ⟨h1, h2⟩ j hj hj'
      by_cases e : j = i
      · rw [e]; exact h1
      · exact h2 j (by omega) (by omega)
    · intro h
      exact ⟨h i (by omega) (by omega), fun j hj hj' => h j (by omega) (by omega)⟩
theorem rd_lines (F : List Int) (L : List ByteArray) (n i : Nat) (h : i < n) : rdOf ByteArray.empty (linesV F L n) (i : Int) = lineV F L i := by
  rw [rd_str _ i (by rw [linesV_len]; exact h)]
  unfold linesV
  simp
theorem rd_gots (F : List Int) (lies : List (List DL)) (L : List ByteArray) (num : Int) (tb : List Int) (n i : Nat) (h : i < n) : rd_L3 (gotsV F lies L num tb n) (i : Int) = gotV F lies L num tb i := by
  rw [rd_got _ i (by rw [gotsV_len]; exact h)]
  unfold gotsV
  simp
theorem node_gt {c : CF} {F : List Int} {num : Int} {L : List ByteArray} : ∀ {l : List DL} {last : Int}, nodeV c F num L l last = 0 → ∀ y ∈ l, last < y.f1
  | [], _, _, y, hy => by cases hy
  | x :: xs, last, h, y, hy => by
    rw [nodeV] at h
    by_cases h0 : msgV c F num L x last = 0
    · rw [if_pos h0] at h
      have hm := (msg_ok h0).1
      rcases List.mem_cons.1 hy with e | e
      · rw [e]; exact hm
      · have := node_gt h y e
        omega
    · rw [if_neg h0] at h
      exact absurd h h0
theorem told_none (l : List DL) (s o : Int) (h : ∀ y ∈ l, y.f1 ≠ s) : toldV l s o = none := by
  unfold toldV
  rw [List.find?_eq_none.2 (fun y hy => by rw [decide_eq_false (h y hy)]; simp)]
  rfl
theorem del_of (c : CF) (F : List Int) (num : Int) (L : List ByteArray) (mine : List DL) (hL : ∀ x ∈ L, x.size ≤ 16) (htb : ∀ x ∈ c.f10, 0 ≤ x ∧ x < (L.length : Int)) : ∀ (d i : Nat) (l : List DL), i + d = c.f10.length → nodeV c F num L l ((i : Int) - 1) = 0 → (∀ j : Nat, i ≤ j → j < c.f10.length → F.contains (rd c.f10 (j : Int)) = false → (j : Int) ∈ l.map (·.f1)) → (∀ (j : Nat) (o : Int), i ≤ j → toldV mine (j : Int) o = toldV l (j : Int) o) → delV F mine L num c.f10 d i = l
  | 0, i, [], h, _, _, _ => rfl
  | 0, i, x :: xs, h, hn, _, _ => by
    rw [nodeV] at hn
    by_cases h0 : msgV c F num L x ((i : Int) - 1) = 0
    · have := msg_ok h0
      omega
    · rw [if_neg h0] at hn
      exact absurd hn h0
  | d + 1, i, [], h, hn, hh, ht => by
    have ih := del_of c F num L mine hL htb d (i + 1) [] (by omega) rfl (fun j hj hj' hc => hh j (by omega) hj' hc) (fun j o hj => ht j o (by omega))
    rw [delV, ih, List.append_nil]
    unfold slotV
    cases hc : F.contains (rd c.f10 (i : Int)) with
    | true =>
      rw [if_pos rfl, ht i _ (by omega)]
      rfl
    | false => have := hh i (by omega) (by omega) hc; cases this
  | d + 1, i, x :: xs, h, hn, hh, ht => by
    have hi : i < c.f10.length := by omega
    have hn0 := hn
    rw [nodeV] at hn
    by_cases h0 : msgV c F num L x ((i : Int) - 1) = 0
    · rw [if_pos h0] at hn
      obtain ⟨m1, m2, m3, m4, m5, m6⟩ := msg_ok h0
      by_cases e : x.f1 = (i : Int)
      · rw [e] at hn m3
        have ih := del_of c F num L mine hL htb d (i + 1) xs (by omega) (by rw [show ((i + 1 : Nat) : Int) - 1 = (i : Int) by omega]; exact hn)
          (fun j hj hj' hc => by
            have := hh j (by omega) hj' hc
            rw [List.map_cons, List.mem_cons] at this
            rcases this with q | q
            · rw [e] at q; omega
            · exact q)
          (fun j o hj => by
            rw [ht j o (by omega)]
            unfold toldV
            rw [List.find?_cons, decide_eq_false (show ¬ x.f1 = (j : Int) by omega)]
            rfl)
        have hx : ∀ t : ByteArray, cutV t = x.f3 → (⟨rd c.f10 (i : Int), (i : Int), num, cutV t⟩ : DL) = x := fun t ht' => by
          rw [ht', ← m3, ← e, ← m4]
        have hslot : slotV F mine L num c.f10 i = [x] := by
          unfold slotV
          cases hc : F.contains (rd c.f10 (i : Int)) with
          | true =>
            have htx : toldV (x :: xs) (i : Int) (rd c.f10 (i : Int)) = some x.f3 := by
              unfold toldV
              rw [List.find?_cons, decide_eq_true e, decide_eq_true m3]
              rfl
            rw [if_pos rfl, ht i _ (by omega), htx]
            show [(⟨rd c.f10 (i : Int), (i : Int), num, cutV x.f3⟩ : DL)] = [x]
            rw [hx _ (cutV_id m5)]
          | false =>
            rw [if_neg (show ¬ (false = true) by decide)]
            rw [m3, hc] at m6
            have hq : x.f3 = rdOf ByteArray.empty L (rd c.f10 (i : Int)) := toList_inj (m6.resolve_left (by decide))
            rw [hx _ (by rw [← hq]; exact cutV_id m5)]
        rw [delV, hslot, ih]
        rfl
      · have hgt : ∀ y ∈ x :: xs, y.f1 ≠ (i : Int) := fun y hy => by
          rcases List.mem_cons.1 hy with q | q
          · rw [q]; exact e
          · have := node_gt hn y q
            omega
        have hmv : msgV c F num L x (((i + 1 : Nat) : Int) - 1) = 0 := msg_zero (by omega) m2 m3 m4 m5 m6
        have ih := del_of c F num L mine hL htb d (i + 1) (x :: xs) (by omega) (by rw [nodeV, if_pos hmv]; exact hn) (fun j hj hj' hc => hh j (by omega) hj' hc) (fun j o hj => ht j o (by omega))
        have hslot : slotV F mine L num c.f10 i = [] := by
          unfold slotV
          cases hc : F.contains (rd c.f10 (i : Int)) with
          | true =>
            rw [if_pos rfl, ht i _ (by omega), told_none _ _ _ hgt]
          | false =>
            have := hh i (by omega) hi hc
            obtain ⟨y, hy, hy'⟩ := List.mem_map.1 this
            exact absurd hy' (hgt y hy)
        rw [delV, hslot, ih]
        rfl
    · rw [if_neg h0] at hn
      exact absurd hn h0
theorem one_of (c : CF) (F : List Int) (num : Int) (L : List ByteArray) (hL : ∀ x ∈ L, x.size ≤ 16) (htb : ∀ x ∈ c.f10, 0 ≤ x ∧ x < (L.length : Int)) (l : List DL) (h : oneV c F num L l = 0) : delV F l L num c.f10 c.f10.length 0 = l := by
  unfold oneV at h
  by_cases h0 : nodeV c F num L l (-1) = 0
  · rw [if_pos h0, late_iff] at h
    exact del_of c F num L l hL htb c.f10.length 0 l (by omega) h0 (fun j hj hj' hc => h j hj (by omega) hc) (fun _ _ _ => rfl)
  · rw [if_neg h0] at h
    exact absurd h h0
theorem list_eqs {α : Type} {a b : List α} (h : a.length = b.length) (hg : ∀ (i : Nat) (h1 : i < a.length) (h2 : i < b.length), a[i] = b[i]) : a = b := List.ext_getElem h hg
theorem fits_played {c : CF} (hp : PlC c) {F : List Int} {num : Int} {mem : ByteArray} {L : List ByteArray} {G : List (List DL)} (h : fitsV c F num mem L G = 0) : playN c num = num ∧ playM c F mem = mem ∧ playL c F L = L ∧ playG c F num L G = G := by
  have hn := hp.n
  have hm := hp.m
  have hcl : cl c.f0 = c.f0.toNat := by have := cl_id (a := c.f0) (by omega) (by omega); omega
  unfold fitsV at h
  rw [if_pos (plain_iff.2 hp)] at h
  by_cases h0 : num < 0 ∨ num ≥ c.f8
  · rw [if_pos h0] at h; omega
  rw [if_neg h0] at h
  by_cases h1 : (decide ((mem.size : Int) = c.f0) && memB F mem c.f0.toNat 0) = true
  case neg => rw [if_neg h1] at h; omega
  rw [if_pos h1] at h
  by_cases h2 : sizesV c F L G = true
  case neg => rw [if_neg h2] at h; omega
  rw [if_pos h2, fitB_iff] at h
  have hmem := Bool.and_eq_true_iff.1 h1
  have hsz := of_decide_eq_true hmem.1
  unfold sizesV at h2
  have h3 := Bool.and_eq_true_iff.1 h2
  have h4 := Bool.and_eq_true_iff.1 h3.2
  have hll := of_decide_eq_true h3.1
  have hgl := of_decide_eq_true h4.1
  have hs := (sizB_iff F L G _ _).1 h4.2
  have hN : playN c num = num := by unfold playN; exact Int.emod_eq_of_lt (by omega) (by omega)
  have hL : ∀ x ∈ L, x.size ≤ 16 := fun x hx => by
    obtain ⟨i, hi, rfl⟩ := List.getElem_of_mem hx
    have := (hs i (by omega) (by omega)).1
    rwa [rd_str L i hi] at this
  have hPL : playL c F L = L := by
    unfold playL
    refine list_eqs (by rw [linesV_len]; omega) (fun i hi1 hi2 => ?_)
    have hq := hs i (by omega) (by omega)
    rw [rd_str L i hi2] at hq
    have e := rd_lines F L c.f0.toNat i (by omega)
    rw [rd_str _ i hi1] at e
    rw [e]
    unfold lineV
    cases hc : F.contains (i : Int) with
    | true =>
      rw [if_pos rfl]
      exact toList_inj (by rw [(hq.2 hc).1, toList_data])
    | false =>
      rw [if_neg (show ¬ (false = true) by decide), if_pos (by omega), rd_str L i hi2]
      exact cutV_id hq.1
  refine ⟨hN, ?_, hPL, ?_⟩
  · unfold playM
    rw [hcl]
    have := mark_same F mem c.f0.toNat (by omega) (by omega)
    rw [hmem.2] at this
    exact toList_inj (eq_of_beq this)
  · unfold playG
    rw [hPL, hN]
    refine list_eqs (by rw [gotsV_len]; omega) (fun i hi1 hi2 => ?_)
    have e := rd_gots F G L num c.f10 c.f0.toNat i (by omega)
    rw [rd_got _ i hi1] at e
    have hq := hs i (by omega) (by omega)
    rw [rd_got G i hi2] at hq
    rw [e]
    unfold gotV
    cases hc : F.contains (i : Int) with
    | true =>
      rw [if_pos rfl]
      exact (List.eq_nil_of_length_eq_zero (hq.2 hc).2).symm
    | false =>
      have ho := h i (by omega) (by omega) hc
      rw [rd_got G i hi2] at ho
      have hmv : mineV G i = G[i] := by unfold mineV; rw [if_pos (by omega), rd_got G i hi2]
      rw [if_neg (show ¬ (false = true) by decide), hmv]
      exact one_of c F num L hL (fun x hx => by have := hp.own x hx; omega) _ ho
end Go.Proofs.Ytdnccjlfongdeaa.Facts
