import Derived.Test.YtdnccjlfongdeaaZRoundOnlyGn0
import Derived.Test.YtdnccjlfongdeaaZRoundOnlyGn16
import Derived.Test.YtdnccjlfongdeaaZRoundOnlyGn17
import Derived.Test.YtdnccjlfongdeaaZRoundOnlyGn20
import Derived.Test.YtdnccjlfongdeaaZRoundOnlyGn2
import Derived.Test.YtdnccjlfongdeaaZRoundOnlyGn24
import Derived.Test.YtdnccjlfongdeaaZRoundOnlyRoundFit
namespace Go.Proofs.Ytdnccjlfongdeaa.Facts
open Go.RowKit Go.Proofs.Ytdnccjlfongdeaa.Gn Go.Proofs.YtdnccjlfongdeaaW.PrintWords Go.Proofs.YtdnccjlfongdeaaW.PrintLast
open FactsM (markV cl cl_id)
set_option linter.unusedVariables false
set_option linter.unusedSimpArgs false
theorem toList_loop (bs : ByteArray) : ∀ (d i : Nat) (r : List UInt8), i + d = bs.size → ByteArray.toList.loop bs i r = r.reverse ++ bs.data.toList.drop i
  | 0, i, r, h => by
    rw [ByteArray.toList.loop, if_neg (by omega), List.drop_of_length_le (by rw [Array.length_toList]; show bs.size ≤ i; omega), List.append_nil]
  | d + 1, i, r, h => by
    have hi : i < bs.size := by omega
    have hi' : i < bs.data.toList.length := by rw [Array.length_toList]; exact hi
    have hg : bs.get! i = bs.data.toList[i] := by
      show bs.data[i]! = _
      rw [getElem!_pos bs.data i hi]
      rfl
    rw [ByteArray.toList.loop, if_pos hi, toList_loop bs d (i + 1) _ (by omega), List.drop_eq_getElem_cons hi', hg]
    simp
theorem toList_data (bs : ByteArray) : bs.toList = bs.data.toList := by
  have := toList_loop bs bs.size 0 [] (by omega)
  simpa [ByteArray.toList] using this
theorem toList_inj {a b : ByteArray} (h : a.toList = b.toList) : a = b := by
  rw [toList_data, toList_data] at h
  exact ByteArray.ext (Array.toList_inj.1 h)
/-- Can they be: each there or not there, and not there only if faulty. -/
def memB (F : List Int) (mem : ByteArray) : Nat → Nat → Bool
  | 0, _ => true
  | d + 1, i => (decide (bt mem (i : Int) = 49) || (decide (bt mem (i : Int) = 48) && F.contains (i : Int))) && memB F mem d (i + 1)
theorem memB_iff (F : List Int) (mem : ByteArray) : ∀ d i : Nat, memB F mem d i = true ↔ ∀ j, i ≤ j → j < i + d → (bt mem (j : Int) = 49 ∨ (bt mem (j : Int) = 48 ∧ F.contains (j : Int) = true))
  | 0, i => ⟨fun _ j h1 h2 => by omega, fun _ => rfl⟩
  | d + 1, i => by
    rw [memB, Bool.and_eq_true, memB_iff F mem d (i + 1), Bool.or_eq_true, Bool.and_eq_true, decide_eq_true_eq, decide_eq_true_eq]
    constructor
    · rintro ⟨h1, h2⟩ j hj hj'
      by_cases e : j = i
      · rw [e]; exact h1
      · exact h2 j (by omega) (by omega)
    · intro h
      exact ⟨h i (by omega) (by omega), fun j hj hj' => h j (by omega) (by omega)⟩
theorem honF_ge (F : List Int) : ∀ (d i : Nat) (x : Int), x ∈ honF F d i → (i : Int) ≤ x ∧ x < (i : Int) + d ∧ F.contains x = false
  | 0, i, x, h => by cases h
  | d + 1, i, x, h => by
    unfold honF at h
    split at h
    · have := honF_ge F d (i + 1) x h
      exact ⟨by omega, by omega, this.2.2⟩
    · rename_i hc
      rcases List.mem_cons.1 h with e | e
      · subst e
        exact ⟨by omega, by omega, Bool.eq_false_iff.2 hc⟩
      · have := honF_ge F d (i + 1) x e
        exact ⟨by omega, by omega, this.2.2⟩
theorem bt_mark (s : ByteArray) (n : Nat) (l : List Int) (i : Nat) (h : i < n) : bt (markV s n l) (i : Int) = FactsM.markI s l i := by
  unfold bt
  have hs : (i : Int).toNat < (markV s n l).size := by rw [FactsM.markV_size]; simpa using h
  rw [dif_pos hs]
  have : (markV s n l)[(i : Int).toNat]'hs = UInt8.ofNat (FactsM.markI s l i).toNat := by
    show ((((List.range n).map (FactsM.markI s l)).map fun (n : Int) => UInt8.ofNat n.toNat).toArray)[i]'_ = _
    simp
  rw [this]
  unfold FactsM.markI
  split <;> rfl
theorem honF_has (F : List Int) : ∀ (d i : Nat) (j : Nat), i ≤ j → j < i + d → ((honF F d i).contains (j : Int) = !F.contains (j : Int))
  | 0, i, j, h, h' => by omega
  | d + 1, i, j, h, h' => by
    unfold honF
    by_cases e : j = i
    · subst e
      cases hc : F.contains (j : Int) with
      | true =>
        rw [if_pos rfl]
        show _ = false
        rw [Bool.eq_false_iff]
        intro hq
        have := honF_ge F d (j + 1) _ (List.contains_iff_mem.1 hq)
        omega
      | false =>
        rw [if_neg (by decide)]
        simp
    · have ih := honF_has F d (i + 1) j (by omega) (by omega)
      split
      · exact ih
      · rw [List.contains_cons, ih, show ((j : Int) == (i : Int)) = false from beq_eq_false_iff_ne.2 (by omega), Bool.false_or]
theorem bt_eqs {a b : ByteArray} (hs : a.size = b.size) (h : ∀ i : Nat, i < a.size → bt a (i : Int) = bt b (i : Int)) : a = b := by
  apply ByteArray.ext
  apply Array.ext
  · exact hs
  · intro i h1 h2
    have h1' : i < a.size := h1
    have h2' : i < b.size := h2
    have := h i h1'
    unfold bt at this
    rw [dif_pos (show (i : Int).toNat < a.size by omega), dif_pos (show (i : Int).toNat < b.size by omega)] at this
    have e : (a[i]'h1').toNat = (b[i]'h2').toNat := by exact_mod_cast this
    exact UInt8.toNat_inj.1 e
theorem mark_same (F : List Int) (mem : ByteArray) (n : Nat) (hs : mem.size = n) (hn : n ≤ 13) : ((markV mem n (honF F n 0)).toList == mem.toList) = memB F mem n 0 := by
  have hsz := FactsM.markV_size mem n (honF F n 0)
  have hbt : ∀ i : Nat, i < n → bt (markV mem n (honF F n 0)) (i : Int) = if bt mem (i : Int) = 49 ∨ F.contains (i : Int) = false then 49 else 48 := fun i hi => by
    have e : bt (markV mem n (honF F n 0)) (i : Int) = FactsM.markI mem (honF F n 0) i := bt_mark mem n _ i hi
    rw [e]
    unfold FactsM.markI
    rw [FactsM.hasB_in (show (i : Int) < (mem.size : Int) by omega), honF_has F n 0 i (by omega) (by omega)]
    by_cases h1 : bt mem (i : Int) = 49
    · rw [show (bt mem (i : Int) == 49) = true from beq_iff_eq.2 h1, Bool.true_or, if_pos rfl, if_pos (.inl h1)]
    · rw [show (bt mem (i : Int) == 49) = false from beq_eq_false_iff_ne.2 h1, Bool.false_or]
      cases F.contains (i : Int) with
      | true => rw [if_neg (by decide), if_neg (by rintro (h | h); exact h1 h; cases h)]
      | false => rw [if_pos (by rfl), if_pos (.inr rfl)]
  rw [Bool.eq_iff_iff, memB_iff]
  constructor
  · intro h j _ hj
    have e : markV mem n (honF F n 0) = mem := toList_inj (eq_of_beq h)
    have := hbt j (by omega)
    rw [e] at this
    by_cases h1 : bt mem (j : Int) = 49
    · exact .inl h1
    · cases hc : F.contains (j : Int) with
      | true =>
        rw [hc, if_neg (by rintro (h | h); exact h1 h; cases h)] at this
        exact .inr ⟨this, rfl⟩
      | false =>
        rw [if_pos (.inr hc)] at this
        exact absurd this h1
  · intro h
    have e : markV mem n (honF F n 0) = mem := bt_eqs (by omega) (fun i hi => by
      rw [hsz] at hi
      rw [hbt i hi]
      rcases h i (by omega) (by omega) with h1 | ⟨h1, h2⟩
      · rw [if_pos (.inl h1), h1]
      · rw [if_neg (by rintro (h | h); omega; rw [h2] at h; cases h), h1])
    rw [e]
    exact beq_self_eq_true _
def sizB (F : List Int) (L : List ByteArray) (G : List (List DL)) : Nat → Nat → Bool
  | 0, _ => true
  | d + 1, i => if ((rdOf ByteArray.empty L (i : Int)).size : Int) > 16 then false else if F.contains (i : Int) = true then (if (rdOf ByteArray.empty L (i : Int)).toList = ([] : List UInt8) then (if ((rd_L3 G (i : Int)).length : Int) > 0 then false else sizB F L G d (i + 1)) else false) else sizB F L G d (i + 1)
theorem siz_l0 (c : CF) (F : List Int) (num : Int) (mem : ByteArray) (L : List ByteArray) (G : List (List DL)) (n : Nat) (hn : n ≤ 13) (hL : L.length = n) (hG : G.length = n) (hF : F.length ≤ 100) : ∀ (d k i : Nat), i + d = n → d + 200 ≤ k → round_machine_sizes.l0 k (n : Int) (i : Int) c.f0 c.f1 c.f2 c.f3 c.f4 c.f5 c.f6 c.f7 c.f8 c.f9 c.f10 F num mem L G = some (sizB F L G d i)
  | 0, k, i, h, hk => by
    obtain ⟨k, rfl, _⟩ := peel (show 0 + 1 ≤ k by omega)
    rw [round_machine_sizes.l0, if_neg (by omega)]
    rfl
  | d + 1, k, i, h, hk => by
    obtain ⟨k, rfl, hk'⟩ := peel (show d + 200 + 1 ≤ k by omega)
    rw [round_machine_sizes.l0, if_pos (by omega), if_pos (by omega), if_pos (by omega), lies_eq c F _ (by omega) k (by omega), Option.bind_some, w64_step (by omega), siz_l0 c F num mem L G n hn hL hG hF d k (i + 1) (by omega) hk', sizB]
    split
    · rfl
    · split
      · split
        · rw [if_pos (by omega)]
          split <;> rfl
        · rfl
      · rfl
def sizesV (c : CF) (F : List Int) (L : List ByteArray) (G : List (List DL)) : Bool := decide ((L.length : Int) = c.f0) && (decide ((G.length : Int) = c.f0) && sizB F L G c.f0.toNat 0)
theorem sizes_eq (c : CF) (F : List Int) (num : Int) (mem : ByteArray) (L : List ByteArray) (G : List (List DL)) (hN : 4 ≤ c.f0 ∧ c.f0 ≤ 13) (hF : F.length ≤ 100) (k : Nat) (hk : 300 ≤ k) : round_machine_sizes.f k c.f0 c.f1 c.f2 c.f3 c.f4 c.f5 c.f6 c.f7 c.f8 c.f9 c.f10 F num mem L G = some (sizesV c F L G) := by
  obtain ⟨k, rfl, hk'⟩ := peel (show 299 + 1 ≤ k by omega)
  have hc0 : c.f0 = ((c.f0.toNat : Nat) : Int) := by omega
  unfold round_machine_sizes.f sizesV
  by_cases h1 : (L.length : Int) = c.f0
  · rw [if_pos h1, decide_eq_true h1, round_machine_sizes.j0]
    by_cases h2 : (G.length : Int) = c.f0
    · rw [if_neg (by simpa using h2), decide_eq_true h2]
      have := siz_l0 c F num mem L G c.f0.toNat (by omega) (by omega) (by omega) hF c.f0.toNat k 0 (by omega) (by omega)
      rw [← hc0] at this
      exact this
    · rw [if_pos (bne_iff_ne.2 h2), decide_eq_false h2]
      rfl
  · rw [if_neg h1, decide_eq_false h1, round_machine_sizes.j0, if_pos rfl]
    rfl
def fitB (c : CF) (F : List Int) (num : Int) (L : List ByteArray) (G : List (List DL)) : Nat → Nat → Int
  | 0, _ => 0
  | d + 1, i => if F.contains (i : Int) = true then fitB c F num L G d (i + 1) else if oneV c F num L (rd_L3 G (i : Int)) = 0 then fitB c F num L G d (i + 1) else oneV c F num L (rd_L3 G (i : Int))
def fitsV (c : CF) (F : List Int) (num : Int) (mem : ByteArray) (L : List ByteArray) (G : List (List DL)) : Int :=
  if plainE c.f0 c.f1 c.f2 c.f3 c.f4 c.f5 c.f6 c.f7 c.f8 c.f9 c.f10 = 0 then (if num < 0 ∨ num ≥ c.f8 then 2 else if (decide ((mem.size : Int) = c.f0) && memB F mem c.f0.toNat 0) = true then (if sizesV c F L G = true then fitB c F num L G c.f0.toNat 0 else 6) else 7) else plainE c.f0 c.f1 c.f2 c.f3 c.f4 c.f5 c.f6 c.f7 c.f8 c.f9 c.f10
theorem got_in {G : List (List DL)} {B : Nat} (h : ∀ l ∈ G, l.length ≤ B) (i : Nat) (hi : i < G.length) : (rd_L3 G (i : Int)).length ≤ B := by
  rw [rd_got G i hi]
  exact h _ (List.getElem_mem hi)
theorem fits_l0 (c : CF) (F : List Int) (num : Int) (mem : ByteArray) (L : List ByteArray) (G : List (List DL)) (H : List Int) (n : Nat) (hn : n ≤ 13) (hG : G.length = n) (hg : ∀ l ∈ G, l.length ≤ 100) (hF : F.length ≤ 100) (htb : ∀ x ∈ c.f10, 0 ≤ x ∧ x < (L.length : Int)) (ht : c.f10.length ≤ 100) (hH : H.length ≤ 100) : ∀ (d k i j : Nat), i + d = n → H.drop j = honF F d i → d + 500 ≤ k → round_Fits.l0 k H (H.length : Int) (j : Int) num mem L G c.f0 c.f1 c.f2 c.f3 c.f4 c.f5 c.f6 c.f7 c.f8 c.f9 c.f10 F = some (fitB c F num L G d i)
  | 0, k, i, j, h, hj, hk => by
    obtain ⟨k, rfl, _⟩ := peel (show 0 + 1 ≤ k by omega)
    have hl : H.length ≤ j := by
      have := congrArg List.length hj
      rw [List.length_drop, honF, List.length_nil] at this
      omega
    rw [round_Fits.l0, if_neg (by omega)]
    rfl
  | d + 1, k, i, j, h, hj, hk => by
    cases hc : F.contains (i : Int) with
    | true =>
      rw [honF, if_pos hc] at hj
      rw [fitB, if_pos hc]
      exact fits_l0 c F num mem L G H n hn hG hg hF htb ht hH d k (i + 1) j (by omega) hj (by omega)
    | false =>
      rw [honF, if_neg (by rw [hc]; decide)] at hj
      obtain ⟨hjl, he, hd⟩ := drop_hd hj
      obtain ⟨k, rfl, hk'⟩ := peel (show d + 500 + 1 ≤ k by omega)
      have hlen := got_in hg i (by omega)
      rw [round_Fits.l0, if_pos (by omega), if_pos (by omega), if_pos (by omega), rd_at H j hjl, he, if_pos (by omega), if_pos (by omega), node_eq c F num mem L G _ (by omega) hF htb ht k (by omega), Option.bind_some, w64_step (by omega), fits_l0 c F num mem L G H n hn hG hg hF htb ht hH d k (i + 1) (j + 1) (by omega) hd hk', fitB, hc, if_neg (show ¬ (false = true) by decide)]
      split <;> rfl
theorem members_eq (c : CF) (F : List Int) (mem : ByteArray) (hN : 4 ≤ c.f0 ∧ c.f0 ≤ 13) (hF : F.length ≤ 100) (k : Nat) (hk : 300 ≤ k) : round_machine_members.f k c.f0 c.f1 c.f2 c.f3 c.f4 c.f5 c.f6 c.f7 c.f8 c.f9 c.f10 F mem = some (decide ((mem.size : Int) = c.f0) && memB F mem c.f0.toNat 0) := by
  have hl := honF_len F c.f0.toNat 0
  unfold round_machine_members.f
  by_cases h : (mem.size : Int) = c.f0
  · have hcl : cl c.f0 = c.f0.toNat := by have := cl_id (a := c.f0) (by omega) (by omega); omega
    rw [if_pos h, decide_eq_true h, honest_eq c F hF hN k (by omega), Option.bind_some, mark_eq c mem _ (by omega) k (by omega), Option.bind_some, hcl, mark_same F mem c.f0.toNat (by omega) (by omega)]
    rfl
  · rw [if_neg h, decide_eq_false h]
    rfl
theorem fits_j0 (c : CF) (F : List Int) (num : Int) (mem : ByteArray) (L : List ByteArray) (G : List (List DL)) (hp : PlC c) (hg : ∀ l ∈ G, l.length ≤ 100) (hF : F.length ≤ 100) (b : Bool) (k : Nat) (hk : 1000 ≤ k) : round_Fits.j0 k b num mem L G c.f0 c.f1 c.f2 c.f3 c.f4 c.f5 c.f6 c.f7 c.f8 c.f9 c.f10 F = some (if b = true then 2 else if (decide ((mem.size : Int) = c.f0) && memB F mem c.f0.toNat 0) = true then (if sizesV c F L G = true then fitB c F num L G c.f0.toNat 0 else 6) else 7) := by
  obtain ⟨k, rfl, hk'⟩ := peel (show 999 + 1 ≤ k by omega)
  have hn := hp.n
  have hl := honF_len F c.f0.toNat 0
  have hlen := hp.len
  rw [round_Fits.j0, members_eq c F mem hn hF k (by omega), Option.bind_some, sizes_eq c F num mem L G hn hF k (by omega), Option.bind_some, honest_eq c F hF hn k (by omega), Option.bind_some]
  cases b with
  | true => rfl
  | false =>
    rw [if_neg (show ¬ (false = true) by decide), if_neg (show ¬ (false = true) by decide)]
    split
    · split
      · rename_i hs
        have h3 := Bool.and_eq_true_iff.1 hs
        have h1 := of_decide_eq_true h3.1
        have h2 := of_decide_eq_true (Bool.and_eq_true_iff.1 h3.2).1
        exact fits_l0 c F num mem L G (honF F c.f0.toNat 0) c.f0.toNat (by omega) (by omega) hg hF (fun x hx => by have := hp.own x hx; omega) (by omega) (by omega) c.f0.toNat k 0 0 (by omega) rfl (by omega)
      · rfl
    · rfl
theorem fits_eq (c : CF) (F : List Int) (num : Int) (mem : ByteArray) (L : List ByteArray) (G : List (List DL)) (hg : ∀ l ∈ G, l.length ≤ 100) (hF : F.length ≤ 100) (k : Nat) (hk : 1000 ≤ k) : round_Fits.f k c.f0 c.f1 c.f2 c.f3 c.f4 c.f5 c.f6 c.f7 c.f8 c.f9 c.f10 F num mem L G = some (fitsV c F num mem L G) := by
  unfold round_Fits.f fitsV
  rw [plain_eq k (by omega), Option.bind_some]
  by_cases hp : plainE c.f0 c.f1 c.f2 c.f3 c.f4 c.f5 c.f6 c.f7 c.f8 c.f9 c.f10 = 0
  · have hj := fits_j0 c F num mem L G (plain_iff.1 hp) hg hF
    rw [if_pos hp, if_pos hp, hj _ k hk, hj _ k hk]
    by_cases h0 : num < 0
    · rw [if_pos h0, decide_eq_true h0, if_pos rfl, if_pos (show num < 0 ∨ num ≥ c.f8 from .inl h0)]
    · by_cases h1 : num ≥ c.f8
      · rw [if_neg h0, decide_eq_true h1, if_pos rfl, if_pos (show num < 0 ∨ num ≥ c.f8 from .inr h1)]
      · rw [if_neg h0, decide_eq_false h1, if_neg (show ¬ (false = true) by decide), if_neg (show ¬ (num < 0 ∨ num ≥ c.f8) by omega)]
  · rw [if_neg hp, if_neg hp]
end Go.Proofs.Ytdnccjlfongdeaa.Facts
