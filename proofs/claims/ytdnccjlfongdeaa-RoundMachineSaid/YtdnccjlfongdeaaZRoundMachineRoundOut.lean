import Derived.Test.YtdnccjlfongdeaaZRoundMachineGn0
import Derived.Test.YtdnccjlfongdeaaZRoundMachineRoundFits
namespace Go.Proofs.Ytdnccjlfongdeaa.Facts
open Go.RowKit Go.Proofs.Ytdnccjlfongdeaa.Gn Go.Proofs.YtdnccjlfongdeaaW.PrintWords Go.Proofs.YtdnccjlfongdeaaW.PrintLast
open FactsM (markV cl cl_id)
set_option linter.unusedVariables false
set_option linter.unusedSimpArgs false
theorem msg_zero {c : CF} {F : List Int} {num : Int} {L : List ByteArray} {d : DL} {last : Int} (h0 : last < d.f1) (h1 : d.f1 < (c.f10.length : Int)) (h2 : d.f0 = rd c.f10 d.f1) (h3 : d.f2 = num) (h4 : d.f3.size ≤ 16) (h5 : F.contains d.f0 = true ∨ d.f3.toList = (rdOf ByteArray.empty L d.f0).toList) : msgV c F num L d last = 0 := by
  unfold msgV
  rw [if_neg (by omega), if_pos h2, if_pos h3, if_neg (by omega)]
  rcases h5 with h | h
  · rw [if_pos h]
  · rw [if_pos h, ite_self]
theorem node_del (c : CF) (F : List Int) (num : Int) (L : List ByteArray) (mine : List DL) (hL : ∀ x ∈ L, x.size ≤ 16) (htb : ∀ x ∈ c.f10, 0 ≤ x ∧ x < (L.length : Int)) : ∀ (d i : Nat) (last : Int), i + d = c.f10.length → last < (i : Int) → nodeV c F num L (delV F mine L num c.f10 d i) last = 0
  | 0, i, last, h, hl => rfl
  | d + 1, i, last, h, hl => by
    have hi : i < c.f10.length := by omega
    have hb := htb _ (List.getElem_mem hi)
    rw [← rd_at c.f10 i hi] at hb
    rw [delV]
    unfold slotV
    cases hc : F.contains (rd c.f10 (i : Int)) with
    | true =>
      rw [if_pos rfl]
      cases toldV mine (i : Int) (rd c.f10 (i : Int)) with
      | none => exact node_del c F num L mine hL htb d (i + 1) last (by omega) (by omega)
      | some t =>
        show nodeV c F num L ((⟨rd c.f10 (i : Int), (i : Int), num, cutV t⟩ : DL) :: delV F mine L num c.f10 d (i + 1)) last = 0
        rw [nodeV, if_pos (msg_zero (d := (⟨rd c.f10 (i : Int), (i : Int), num, cutV t⟩ : DL)) hl (show (i : Int) < (c.f10.length : Int) by omega) rfl rfl (cutV_size t) (.inl hc))]
        exact node_del c F num L mine hL htb d (i + 1) _ (by omega) (show (i : Int) < ((i + 1 : Nat) : Int) by omega)
    | false =>
      rw [if_neg (show ¬ (false = true) by decide)]
      have hlt : (rd c.f10 (i : Int)).toNat < L.length := by omega
      have hcut : cutV (rdOf ByteArray.empty L (rd c.f10 (i : Int))) = rdOf ByteArray.empty L (rd c.f10 (i : Int)) := by
        have e : rd c.f10 (i : Int) = (((rd c.f10 (i : Int)).toNat : Nat) : Int) := by omega
        rw [e, rd_str L _ hlt]
        exact cutV_id (hL _ (List.getElem_mem hlt))
      show nodeV c F num L ((⟨rd c.f10 (i : Int), (i : Int), num, cutV (rdOf ByteArray.empty L (rd c.f10 (i : Int)))⟩ : DL) :: delV F mine L num c.f10 d (i + 1)) last = 0
      rw [nodeV, if_pos (msg_zero (d := (⟨rd c.f10 (i : Int), (i : Int), num, cutV (rdOf ByteArray.empty L (rd c.f10 (i : Int)))⟩ : DL)) hl (show (i : Int) < (c.f10.length : Int) by omega) rfl rfl (cutV_size _) (.inr (by rw [hcut])))]
      exact node_del c F num L mine hL htb d (i + 1) _ (by omega) (show (i : Int) < ((i + 1 : Nat) : Int) by omega)
theorem del_has (F : List Int) (mine : List DL) (L : List ByteArray) (n : Int) (tb : List Int) : ∀ (d i j : Nat), i ≤ j → j < i + d → F.contains (rd tb (j : Int)) = false → (j : Int) ∈ (delV F mine L n tb d i).map (·.f1)
  | 0, i, j, h, h', _ => by omega
  | d + 1, i, j, h, h', hc => by
    rw [delV, List.map_append, List.mem_append]
    by_cases e : j = i
    · subst e
      left
      unfold slotV
      rw [hc, if_neg (show ¬ (false = true) by decide)]
      simp
    · exact .inr (del_has F mine L n tb d (i + 1) j (by omega) (by omega) hc)
theorem late_iff (c : CF) (F : List Int) (l : List DL) : ∀ d i : Nat, lateV c F l d i = 0 ↔ ∀ j, i ≤ j → j < i + d → F.contains (rd c.f10 (j : Int)) = false → (j : Int) ∈ l.map (·.f1)
  | 0, i => ⟨fun _ j h1 h2 => by omega, fun _ => rfl⟩
  | d + 1, i => by
    have ih := late_iff c F l d (i + 1)
    rw [lateV]
    by_cases h0 : (l.map (·.f1)).contains (i : Int) = true
    · rw [if_pos h0, ih]
      constructor
      · intro h j hj hj' hc
        by_cases e : j = i
        · rw [e]; exact List.contains_iff_mem.1 h0
        · exact h j (by omega) (by omega) hc
      · intro h j hj hj' hc
        exact h j (by omega) (by omega) hc
    · rw [if_neg h0]
      by_cases h1 : F.contains (rd c.f10 (i : Int)) = true
      · rw [if_pos h1, ih]
        constructor
        · intro h j hj hj' hc
          by_cases e : j = i
          · rw [e, h1] at hc; cases hc
          · exact h j (by omega) (by omega) hc
        · intro h j hj hj' hc
          exact h j (by omega) (by omega) hc
      · rw [if_neg h1]
        constructor
        · intro h; omega
        · intro h
          exact absurd (List.contains_iff_mem.2 (h i (by omega) (by omega) (Bool.eq_false_iff.2 h1))) h0
theorem one_del (c : CF) (F : List Int) (num : Int) (L : List ByteArray) (mine : List DL) (hL : ∀ x ∈ L, x.size ≤ 16) (htb : ∀ x ∈ c.f10, 0 ≤ x ∧ x < (L.length : Int)) : oneV c F num L (delV F mine L num c.f10 c.f10.length 0) = 0 := by
  unfold oneV
  rw [if_pos (node_del c F num L mine hL htb c.f10.length 0 (-1) (by omega) (by omega)), late_iff]
  exact fun j hj hj' hc => del_has F mine L num c.f10 _ 0 j hj hj' hc
theorem fitB_iff (c : CF) (F : List Int) (num : Int) (L : List ByteArray) (G : List (List DL)) : ∀ d i : Nat, fitB c F num L G d i = 0 ↔ ∀ j, i ≤ j → j < i + d → F.contains (j : Int) = false → oneV c F num L (rd_L3 G (j : Int)) = 0
  | 0, i => ⟨fun _ j h1 h2 => by omega, fun _ => rfl⟩
  | d + 1, i => by
    have ih := fitB_iff c F num L G d (i + 1)
    rw [fitB]
    by_cases h0 : F.contains (i : Int) = true
    · rw [if_pos h0, ih]
      constructor
      · intro h j hj hj' hc
        by_cases e : j = i
        · rw [e, h0] at hc; cases hc
        · exact h j (by omega) (by omega) hc
      · intro h j hj hj' hc
        exact h j (by omega) (by omega) hc
    · rw [if_neg h0]
      by_cases h1 : oneV c F num L (rd_L3 G (i : Int)) = 0
      · rw [if_pos h1, ih]
        constructor
        · intro h j hj hj' hc
          by_cases e : j = i
          · rw [e]; exact h1
          · exact h j (by omega) (by omega) hc
        · intro h j hj hj' hc
          exact h j (by omega) (by omega) hc
      · rw [if_neg h1]
        constructor
        · intro h; exact absurd h h1
        · intro h
          exact h i (by omega) (by omega) (Bool.eq_false_iff.2 h0)
theorem sizB_iff (F : List Int) (L : List ByteArray) (G : List (List DL)) : ∀ d i : Nat, sizB F L G d i = true ↔ ∀ j, i ≤ j → j < i + d → (rdOf ByteArray.empty L (j : Int)).size ≤ 16 ∧ (F.contains (j : Int) = true → (rdOf ByteArray.empty L (j : Int)).toList = [] ∧ (rd_L3 G (j : Int)).length = 0)
  | 0, i => ⟨fun _ j h1 h2 => by omega, fun _ => rfl⟩
  | d + 1, i => by
    have ih := sizB_iff F L G d (i + 1)
    have key : sizB F L G (d + 1) i = true ↔ ((rdOf ByteArray.empty L (i : Int)).size ≤ 16 ∧ (F.contains (i : Int) = true → (rdOf ByteArray.empty L (i : Int)).toList = [] ∧ (rd_L3 G (i : Int)).length = 0)) ∧ sizB F L G d (i + 1) = true := by
      rw [sizB]
      by_cases h0 : ((rdOf ByteArray.empty L (i : Int)).size : Int) > 16
      · rw [if_pos h0]
        exact ⟨fun h => (by cases h), fun h => by have := h.1.1; omega⟩
      rw [if_neg h0]
      by_cases h1 : F.contains (i : Int) = true
      · rw [if_pos h1]
        by_cases h2 : (rdOf ByteArray.empty L (i : Int)).toList = ([] : List UInt8)
        · rw [if_pos h2]
          by_cases h3 : ((rd_L3 G (i : Int)).length : Int) > 0
          · rw [if_pos h3]
            exact ⟨fun h => (by cases h), fun h => by have := (h.1.2 h1).2; omega⟩
          · rw [if_neg h3]
            exact ⟨fun h => ⟨⟨by omega, fun _ => ⟨h2, by omega⟩⟩, h⟩, fun h => h.2⟩
        · rw [if_neg h2]
          exact ⟨fun h => (by cases h), fun h => absurd (h.1.2 h1).1 h2⟩
      · rw [if_neg h1]
        exact ⟨fun h => ⟨⟨by omega, fun h' => absurd h' h1⟩, h⟩, fun h => h.2⟩
    rw [key, ih]
    constructor
    · rintro ⟨h1, h2⟩ j hj hj'
      by_cases e : j = i
      · rw [e]; exact h1
      · exact h2 j (by omega) (by omega)
    · intro h
      exact ⟨h i (by omega) (by omega), fun j hj hj' => h j (by omega) (by omega)⟩
theorem rd_lines (F : List Int) (L : List ByteArray) (n i : Nat) (h : i < n) : rdOf ByteArray.empty (linesV F L n) (i : Int) = lineV F L i := by
  rw [rd_str _ i (by rw [linesV_len]; exact h)]
  unfold linesV
  simp
theorem rd_gots (F : List Int) (lies : List (List DL)) (L : List ByteArray) (num : Int) (tb : List Int) (n i : Nat) (h : i < n) : rd_L3 (gotsV F lies L num tb n) (i : Int) = gotV F lies L num tb i := by
  rw [rd_got _ i (by rw [gotsV_len]; exact h)]
  unfold gotsV
  simp
theorem markB (F : List Int) (s : ByteArray) (n : Nat) : memB F (markV s n (honF F n 0)) n 0 = true := by
  rw [memB_iff]
  intro j _ hj
  have e : bt (markV s n (honF F n 0)) (j : Int) = FactsM.markI s (honF F n 0) j := bt_mark s n _ j (by omega)
  rw [e]
  unfold FactsM.markI
  rw [honF_has F n 0 j (by omega) (by omega)]
  cases F.contains (j : Int) with
  | false => exact .inl (if_pos (by simp))
  | true =>
    split
    · exact .inl rfl
    · exact .inr ⟨rfl, rfl⟩
theorem played_fits {c : CF} (hp : PlC c) (F : List Int) (first : Int) (mem : ByteArray) (L : List ByteArray) (lies : List (List DL)) : fitsV c F (playN c first) (playM c F mem) (playL c F L) (playG c F first L lies) = 0 := by
  have hn := hp.n
  have hm := hp.m
  have hcl : cl c.f0 = c.f0.toNat := by have := cl_id (a := c.f0) (by omega) (by omega); omega
  have h0 := Int.emod_nonneg first (show c.f8 ≠ 0 by omega)
  have h1 := Int.emod_lt_of_pos first (show 0 < c.f8 by omega)
  have hll : (playL c F L).length = c.f0.toNat := by unfold playL; rw [linesV_len]
  have hgl : (playG c F first L lies).length = c.f0.toNat := by unfold playG; rw [gotsV_len]
  unfold fitsV
  rw [if_pos (plain_iff.2 hp), if_neg (show ¬ (playN c first < 0 ∨ playN c first ≥ c.f8) by unfold playN; omega)]
  have hmem : (decide (((playM c F mem).size : Int) = c.f0) && memB F (playM c F mem) c.f0.toNat 0) = true := by
    unfold playM
    rw [hcl, markB, FactsM.markV_size, decide_eq_true (show ((c.f0.toNat : Nat) : Int) = c.f0 by omega)]
    rfl
  have hsiz : sizesV c F (playL c F L) (playG c F first L lies) = true := by
    unfold sizesV
    rw [decide_eq_true (show ((playL c F L).length : Int) = c.f0 by omega), decide_eq_true (show ((playG c F first L lies).length : Int) = c.f0 by omega), Bool.true_and, Bool.true_and, sizB_iff]
    intro j _ hj
    unfold playL playG
    rw [rd_lines _ _ _ _ (by omega), rd_gots _ _ _ _ _ _ _ (by omega)]
    refine ⟨lineV_size F L j, fun hc => ⟨?_, ?_⟩⟩
    · unfold lineV
      rw [if_pos hc, toList_data]
    · unfold gotV
      rw [if_pos hc]
      rfl
  rw [if_pos hmem, if_pos hsiz, fitB_iff]
  intro j _ hj hc
  unfold playG
  rw [rd_gots _ _ _ _ _ _ _ (by omega)]
  unfold gotV
  rw [if_neg (by rw [hc]; decide)]
  exact one_del c F (playN c first) (playL c F L) (mineV lies j) (linesV_short F L _) (tb_own hp F L)
theorem follows_next {c : CF} (hp : PlC c) (first : Int) : folV c (playN c first) (playN c (wrap64 (playN c first + 1))) = true := by
  have hm := hp.m
  have h0 := Int.emod_nonneg first (show c.f8 ≠ 0 by omega)
  have h1 := Int.emod_lt_of_pos first (show 0 < c.f8 by omega)
  have ew : wrap64 (playN c first + 1) = playN c first + 1 := by unfold playN; exact w64 (by omega)
  unfold folV
  rw [decide_eq_true (plain_iff.2 hp), Bool.true_and, ew]
  unfold apartV playN
  generalize first % c.f8 = x at h0 h1
  rw [Int.emod_emod, ← Int.sub_emod, show x + 1 - x = 1 by omega, Int.emod_eq_of_lt (by omega) (by omega)]
  rfl
theorem node_gt {c : CF} {F : List Int} {num : Int} {L : List ByteArray} : ∀ {l : List DL} {last : Int}, nodeV c F num L l last = 0 → ∀ y ∈ l, last < y.f1
  | [], _, _, y, hy => by cases hy
  | x :: xs, last, h, y, hy => by
    rw [nodeV] at h
    by_cases h0 : msgV c F num L x last = 0
    · rw [if_pos h0] at h
      have hm := (msg_ok h0).1
      rcases List.mem_cons.1 hy with e | e
      · rw [e]; exact hm
      · have := node_gt h y e
        omega
    · rw [if_neg h0] at h
      exact absurd h h0
theorem told_none (l : List DL) (s o : Int) (h : ∀ y ∈ l, y.f1 ≠ s) : toldV l s o = none := by
  unfold toldV
  rw [List.find?_eq_none.2 (fun y hy => by rw [decide_eq_false (h y hy)]; simp)]
  rfl
theorem del_of (c : CF) (F : List Int) (num : Int) (L : List ByteArray) (mine : List DL) (hL : ∀ x ∈ L, x.size ≤ 16) (htb : ∀ x ∈ c.f10, 0 ≤ x ∧ x < (L.length : Int)) : ∀ (d i : Nat) (l : List DL), i + d = c.f10.length → nodeV c F num L l ((i : Int) - 1) = 0 → (∀ j : Nat, i ≤ j → j < c.f10.length → F.contains (rd c.f10 (j : Int)) = false → (j : Int) ∈ l.map (·.f1)) → (∀ (j : Nat) (o : Int), i ≤ j → toldV mine (j : Int) o = toldV l (j : Int) o) → delV F mine L num c.f10 d i = l
  | 0, i, [], h, _, _, _ => rfl
  | 0, i, x :: xs, h, hn, _, _ => by
    rw [nodeV] at hn
    by_cases h0 : msgV c F num L x ((i : Int) - 1) = 0
    · have := msg_ok h0
      omega
    · rw [if_neg h0] at hn
      exact absurd hn h0
  | d + 1, i, [], h, hn, hh, ht => by
    have ih := del_of c F num L mine hL htb d (i + 1) [] (by omega) rfl (fun j hj hj' hc => hh j (by omega) hj' hc) (fun j o hj => ht j o (by omega))
    rw [delV, ih, List.append_nil]
    unfold slotV
    cases hc : F.contains (rd c.f10 (i : Int)) with
    | true =>
      rw [if_pos rfl, ht i _ (by omega)]
      rfl
    | false => have := hh i (by omega) (by omega) hc; cases this
  | d + 1, i, x :: xs, h, hn, hh, ht => by
    have hi : i < c.f10.length := by omega
    have hn0 := hn
    rw [nodeV] at hn
    by_cases h0 : msgV c F num L x ((i : Int) - 1) = 0
    · rw [if_pos h0] at hn
      obtain ⟨m1, m2, m3, m4, m5, m6⟩ := msg_ok h0
      by_cases e : x.f1 = (i : Int)
      · rw [e] at hn m3
        have ih := del_of c F num L mine hL htb d (i + 1) xs (by omega) (by rw [show ((i + 1 : Nat) : Int) - 1 = (i : Int) by omega]; exact hn)
          (fun j hj hj' hc => by
            have := hh j (by omega) hj' hc
            rw [List.map_cons, List.mem_cons] at this
            rcases this with q | q
            · rw [e] at q; omega
            · exact q)
          (fun j o hj => by
            rw [ht j o (by omega)]
            unfold toldV
            rw [List.find?_cons, decide_eq_false (show ¬ x.f1 = (j : Int) by omega)]
            rfl)
        have hx : ∀ t : ByteArray, cutV t = x.f3 → (⟨rd c.f10 (i : Int), (i : Int), num, cutV t⟩ : DL) = x := fun t ht' => by
          rw [ht', ← m3, ← e, ← m4]
        have hslot : slotV F mine L num c.f10 i = [x] := by
          unfold slotV
          cases hc : F.contains (rd c.f10 (i : Int)) with
          | true =>
            have htx : toldV (x :: xs) (i : Int) (rd c.f10 (i : Int)) = some x.f3 := by
              unfold toldV
              rw [List.find?_cons, decide_eq_true e, decide_eq_true m3]
              rfl
            rw [if_pos rfl, ht i _ (by omega), htx]
            show [(⟨rd c.f10 (i : Int), (i : Int), num, cutV x.f3⟩ : DL)] = [x]
            rw [hx _ (cutV_id m5)]
          | false =>
            rw [if_neg (show ¬ (false = true) by decide)]
            rw [m3, hc] at m6
            have hq : x.f3 = rdOf ByteArray.empty L (rd c.f10 (i : Int)) := toList_inj (m6.resolve_left (by decide))
            rw [hx _ (by rw [← hq]; exact cutV_id m5)]
        rw [delV, hslot, ih]
        rfl
      · have hgt : ∀ y ∈ x :: xs, y.f1 ≠ (i : Int) := fun y hy => by
          rcases List.mem_cons.1 hy with q | q
          · rw [q]; exact e
          · have := node_gt hn y q
            omega
        have hmv : msgV c F num L x (((i + 1 : Nat) : Int) - 1) = 0 := msg_zero (by omega) m2 m3 m4 m5 m6
        have ih := del_of c F num L mine hL htb d (i + 1) (x :: xs) (by omega) (by rw [nodeV, if_pos hmv]; exact hn) (fun j hj hj' hc => hh j (by omega) hj' hc) (fun j o hj => ht j o (by omega))
        have hslot : slotV F mine L num c.f10 i = [] := by
          unfold slotV
          cases hc : F.contains (rd c.f10 (i : Int)) with
          | true =>
            rw [if_pos rfl, ht i _ (by omega), told_none _ _ _ hgt]
          | false =>
            have := hh i (by omega) hi hc
            obtain ⟨y, hy, hy'⟩ := List.mem_map.1 this
            exact absurd hy' (hgt y hy)
        rw [delV, hslot, ih]
        rfl
    · rw [if_neg h0] at hn
      exact absurd hn h0
theorem one_of (c : CF) (F : List Int) (num : Int) (L : List ByteArray) (hL : ∀ x ∈ L, x.size ≤ 16) (htb : ∀ x ∈ c.f10, 0 ≤ x ∧ x < (L.length : Int)) (l : List DL) (h : oneV c F num L l = 0) : delV F l L num c.f10 c.f10.length 0 = l := by
  unfold oneV at h
  by_cases h0 : nodeV c F num L l (-1) = 0
  · rw [if_pos h0, late_iff] at h
    exact del_of c F num L l hL htb c.f10.length 0 l (by omega) h0 (fun j hj hj' hc => h j hj (by omega) hc) (fun _ _ _ => rfl)
  · rw [if_neg h0] at h
    exact absurd h h0
end Go.Proofs.Ytdnccjlfongdeaa.Facts
