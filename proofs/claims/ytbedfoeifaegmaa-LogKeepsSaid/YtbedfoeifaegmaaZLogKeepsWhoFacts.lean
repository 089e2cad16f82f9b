import Derived.Test.YtbedfoeifaegmaaZLogKeepsGn6
import Derived.Test.YtbedfoeifaegmaaZLogKeepsGn16
import Derived.Test.YtbedfoeifaegmaaZLogKeepsGn26
import Derived.Test.YtbedfoeifaegmaaZLogKeepsGn34
import Derived.Test.YtbedfoeifaegmaaZLogKeepsGn36
import Derived.Test.YtbedfoeifaegmaaZLogKeepsGn37
import Derived.Test.YtbedfoeifaegmaaZLogKeepsLogFacts
namespace Go.Proofs.Ytbedfoeifaegmaa.Facts
open Go.RowKit Go.Proofs.Ytbedfoeifaegmaa.Gn Go.Proofs.YtbedfoeifaegmaaW.PrintWords Go.Proofs.YtbedfoeifaegmaaW.PrintLast
set_option linter.unusedVariables false
/-- One more, in its place. -/
def insS : List Int → Int → List Int
  | [], x => [x]
  | y :: ys, x => if y < x then y :: insS ys x else if y = x then y :: ys else x :: y :: ys
theorem insS_far (x : Int) (b : List Int) : ∀ a : List Int, (∀ y ∈ a, y < x) → insS (a ++ b) x = a ++ insS b x
  | [], _ => rfl
  | y :: a, h => by
    rw [List.cons_append, insS, if_pos (h y (by simp)), insS_far x b a (fun z hz => h z (by simp [hz]))]
    rfl
theorem insS_mem (x z : Int) : ∀ l : List Int, z ∈ insS l x ↔ z = x ∨ z ∈ l
  | [] => by simp [insS]
  | y :: l => by
    unfold insS
    split
    · rw [List.mem_cons, insS_mem x z l, List.mem_cons]
      constructor
      · rintro (h | h | h)
        · exact .inr (.inl h)
        · exact .inl h
        · exact .inr (.inr h)
      · rintro (h | h | h)
        · exact .inr (.inl h)
        · exact .inl h
        · exact .inr (.inr h)
    · split
      · rename_i e
        subst e
        simp
      · simp
theorem insS_sorted (x : Int) : ∀ l : List Int, l.Pairwise (· < ·) → (insS l x).Pairwise (· < ·)
  | [], _ => by simp [insS]
  | y :: l, h => by
    have hy := List.pairwise_cons.1 h
    unfold insS
    split
    · rename_i hl
      refine List.pairwise_cons.2 ⟨fun z hz => ?_, insS_sorted x l hy.2⟩
      rcases (insS_mem x z l).1 hz with e | e
      · rw [e]; exact hl
      · exact hy.1 z e
    · split
      · exact h
      · refine List.pairwise_cons.2 ⟨fun z hz => ?_, h⟩
        rcases List.mem_cons.1 hz with e | e
        · omega
        · have := hy.1 z e
          omega
theorem insS_len (x : Int) : ∀ l : List Int, (insS l x).length ≤ l.length + 1
  | [] => by simp [insS]
  | y :: l => by
    unfold insS
    split
    · have := insS_len x l
      simp only [List.length_cons]
      omega
    · split <;> simp
/-- Which ones, each once and in order. -/
def sortU (xs : List Int) : List Int := xs.foldl insS []
theorem sortF_mem (z : Int) : ∀ (xs acc : List Int), z ∈ xs.foldl insS acc ↔ z ∈ acc ∨ z ∈ xs
  | [], acc => by simp
  | x :: xs, acc => by
    rw [List.foldl_cons, sortF_mem z xs, insS_mem, List.mem_cons]
    constructor
    · rintro ((h | h) | h)
      · exact .inr (.inl h)
      · exact .inl h
      · exact .inr (.inr h)
    · rintro (h | h | h)
      · exact .inl (.inr h)
      · exact .inl (.inl h)
      · exact .inr h
theorem sortF_sorted : ∀ (xs acc : List Int), acc.Pairwise (· < ·) → (xs.foldl insS acc).Pairwise (· < ·)
  | [], _, h => h
  | x :: xs, acc, h => sortF_sorted xs _ (insS_sorted x acc h)
theorem sortF_len : ∀ (xs acc : List Int), (xs.foldl insS acc).length ≤ acc.length + xs.length
  | [], acc => by simp
  | x :: xs, acc => by
    have h1 := sortF_len xs (insS acc x)
    have h2 := insS_len x acc
    rw [List.foldl_cons, List.length_cons]
    omega
theorem sortU_mem (z : Int) (xs : List Int) : z ∈ sortU xs ↔ z ∈ xs := by
  unfold sortU
  rw [sortF_mem]
  simp
theorem sortU_sorted (xs : List Int) : (sortU xs).Pairwise (· < ·) := sortF_sorted xs [] List.Pairwise.nil
theorem sortU_nodup (xs : List Int) : (sortU xs).Nodup := (sortU_sorted xs).imp (fun h e => by omega)
theorem sortU_len (xs : List Int) : (sortU xs).length ≤ xs.length := by
  have := sortF_len xs []
  simpa [sortU] using this
theorem sortU_perm (xs : List Int) : (sortU xs).Perm (uniqL xs) :=
  (List.perm_ext_iff_of_nodup (sortU_nodup xs) (uniqL_nodup xs)).2 (fun z => by rw [sortU_mem, uniqL_mem])
theorem sortU_eq (xs : List Int) : ((uniqL xs).mergeSort fun x y => decide (x ≤ y)) = sortU xs := by
  have h1 : ((uniqL xs).mergeSort fun x y => decide (x ≤ y)).Pairwise (fun a b => decide (a ≤ b) = true) :=
    List.pairwise_mergeSort (fun a b c h1 h2 => by simp at *; omega) (fun a b => by simp; omega) _
  have h2 : (sortU xs).Pairwise (fun a b => decide (a ≤ b) = true) := (sortU_sorted xs).imp (fun h => by simp; omega)
  exact List.Perm.eq_of_pairwise (fun a b _ _ h1 h2 => by simp at *; omega) h1 h2 ((List.mergeSort_perm _ _).trans (sortU_perm xs).symm)
/-- Of which nodes the notes are that are alive. -/
def whoV (now width : Int) (l : List EN) : List Int := sortU ((prg now width l).map (·.f0))
theorem whoV_len (now width : Int) (l : List EN) : (whoV now width l).length ≤ (prg now width l).length := by
  have := sortU_len ((prg now width l).map (·.f0))
  rw [List.length_map] at this
  exact this
theorem who_eq (l : List EN) (hl : l.length ≤ 1000) (hw : WfE l) (now width : Int) : log_Who.f l now width = some (whoV now width l) := by
  unfold log_Who.f
  rw [if_pos ⟨seesAll_true _ _ _, List.all_eq_true.2 hw, by omega⟩, aliveL_full, sortU_eq]
  rfl
theorem count_eq (l : List EN) (hl : l.length ≤ 1000) (hw : WfE l) (now width : Int) : log_Count.f l now width = some (((whoV now width l).length : Nat) : Int) := by
  unfold log_Count.f
  rw [if_pos ⟨seesAll_true _ _ _, List.all_eq_true.2 hw, by omega⟩, aliveL_full, ← (sortU_perm _).length_eq]
  rfl
theorem rwho_l1 (l : List EN) (hl : l.length ≤ 1000) (now width : Int) (j : Nat) (hj : j < l.length) (R : Option (List Int)) (K : Nat) : ∀ (b a : List Int) (k : Nat), a.length + b.length ≤ 1000 → (∀ y ∈ a, y < l[j].f0) → b.length + 1 + K ≤ k → (∀ k', K ≤ k' → r06_Who.l0 k' l now width (insS (a ++ b) l[j].f0) ((j + 1 : Nat) : Int) = R) → r06_Who.l1 k l now width (a ++ b) (j : Int) (a.length : Int) = R
  | [], a, k, hn, ha, hk, hR => by
    obtain ⟨k, rfl, hk'⟩ := lpeel (show K + 1 ≤ k by simp at hk; omega)
    have := hR k hk'
    rw [insS_far _ _ _ ha] at this
    have e1 : ([] : List Int) ++ (a ++ []).take a.length = a := by simp
    have e2 : (a ++ ([] : List Int)).drop a.length = [] := by simp
    rw [r06_Who.l1, if_neg (by simp), if_pos (by omega), if_pos (by simp), Int.toNat_natCast, Option.bind_some, e1, e2, if_pos (by simp; simp at hn; omega), Option.bind_some, if_pos (by omega), if_pos (by omega), if_pos (by simp at hn; omega), Option.bind_some, Option.bind_some, if_pos (by simp; simp at hn; omega), rd_entry l j hj, lstep (by omega), List.append_nil]
    exact this
  | y :: b, a, k, hn, ha, hk, hR => by
    obtain ⟨k, rfl, hk'⟩ := lpeel (show b.length + 1 + K + 1 ≤ k by simp at hk; omega)
    have hlen : (a ++ y :: b).length = a.length + (b.length + 1) := by simp
    have e0 : rd (a ++ y :: b) (a.length : Int) = y := by
      rw [lrd_at _ _ (by simp)]
      simp
    rw [r06_Who.l1, if_pos (by rw [hlen]; omega), if_pos (by omega), if_pos (by omega), if_pos (by omega), e0, rd_entry l j hj]
    by_cases h1 : y < l[j].f0
    · rw [if_pos h1, lstep (by simp at hn; omega)]
      have := rwho_l1 l hl now width j hj R K b (a ++ [y]) k (by simp at hn ⊢; omega) (fun z hz => by
        rcases List.mem_append.1 hz with e | e
        · exact ha z e
        · rw [List.mem_singleton.1 e]; exact h1) hk' (by rw [List.append_assoc]; exact hR)
      rw [List.append_assoc, List.length_append] at this
      exact this
    · rw [if_neg h1]
      have hR' := hR k (by omega)
      rw [insS_far _ _ _ ha, insS, if_neg h1] at hR'
      by_cases h2 : y = l[j].f0
      · rw [if_pos h2, lstep (by omega)]
        rw [if_pos h2] at hR'
        exact hR'
      · rw [if_neg h2, lstep (by omega)]
        rw [if_neg h2] at hR'
        have e1 : ([] : List Int) ++ (a ++ y :: b).take a.length = a := by simp
        have e2 : (a ++ y :: b).drop a.length = y :: b := by simp
        rw [if_pos (by rw [hlen]; omega), Int.toNat_natCast, Option.bind_some, e1, e2, if_pos (by simp; simp at hn; omega), Option.bind_some, if_pos (by simp at hn; omega), Option.bind_some, Option.bind_some, if_pos (by simp; simp at hn; omega), List.append_assoc]
        exact hR'
theorem rwho_l0 (l : List EN) (hl : l.length ≤ 1000) (now width : Int) : ∀ (d k j : Nat) (acc : List Int), j + d = l.length → 1003 * d + 1 ≤ k → acc.length ≤ j → r06_Who.l0 k l now width acc (j : Int) = some (((prg now width (l.drop j)).map (·.f0)).foldl insS acc)
  | 0, k, j, acc, h, hk, ha => by
    obtain ⟨k, rfl⟩ : ∃ n, k = n + 1 := ⟨k - 1, by omega⟩
    rw [r06_Who.l0, if_neg (by omega), List.drop_of_length_le (by omega)]
    rfl
  | d + 1, k, j, acc, h, hk, ha => by
    obtain ⟨k, rfl, hk'⟩ : ∃ n, k = n + 1 ∧ 1003 * d + 1003 ≤ n := ⟨k - 1, by omega, by omega⟩
    have hj : j < l.length := by omega
    rw [r06_Who.l0, if_pos (by omega), if_pos (by omega), ralive_eq, Option.bind_some, rd_entry l j hj, List.drop_eq_getElem_cons hj]
    cases hb : aliveB now width l[j] with
    | true =>
      rw [if_pos rfl]
      have e : prg now width (l[j] :: l.drop (j + 1)) = l[j] :: prg now width (l.drop (j + 1)) := by
        unfold prg
        rw [List.filter_cons, if_pos hb]
      rw [e, List.map_cons, List.foldl_cons]
      refine rwho_l1 l hl now width j hj _ (1003 * d + 1) acc [] k (by simp; omega) (by simp) (by omega) (fun k' hk' => ?_)
      exact rwho_l0 l hl now width d k' (j + 1) _ (by omega) hk' (by
        have := insS_len l[j].f0 acc
        rw [List.nil_append]
        omega)
    | false =>
      rw [if_neg (by decide), lstep (by omega), rwho_l0 l hl now width d k (j + 1) _ (by omega) (by omega) (by omega)]
      unfold prg
      rw [List.filter_cons, if_neg (by rw [hb]; decide)]
theorem rwho_eq (l : List EN) (hl : l.length ≤ 1000) (now width : Int) (k : Nat) (hk : 1003 * l.length + 1 ≤ k) : r06_Who.f k l now width = some (whoV now width l) := by
  unfold r06_Who.f
  exact rwho_l0 l hl now width l.length k 0 [] (by omega) hk (by simp)
theorem rcount_eq (l : List EN) (hl : l.length ≤ 1000) (now width : Int) (k : Nat) (hk : 1003 * l.length + 1 ≤ k) : r06_Count.f k l now width = some (((whoV now width l).length : Nat) : Int) := by
  unfold r06_Count.f
  rw [rwho_eq l hl now width k hk]
  rfl
theorem ints_l0 (l : List Int) (hl : l.length ≤ 1000) : ∀ (d k j : Nat), j + d = l.length → d + 1 ≤ k → r06_Ints.l0 k l l (j : Int) = some true
  | 0, k, j, h, hk => by
    obtain ⟨k, rfl, _⟩ := lpeel hk
    rw [r06_Ints.l0, if_neg (by omega)]
  | d + 1, k, j, h, hk => by
    obtain ⟨k, rfl, hk'⟩ := lpeel hk
    rw [r06_Ints.l0, if_pos (by omega), if_pos (by omega), if_pos (by omega), if_pos rfl, lstep (by omega)]
    exact ints_l0 l hl d k (j + 1) (by omega) hk'
theorem ints_eq (l : List Int) (hl : l.length ≤ 1000) (k : Nat) (hk : l.length + 1 ≤ k) : r06_Ints.f k l l = some true := by
  unfold r06_Ints.f
  rw [if_pos rfl]
  exact ints_l0 l hl l.length k 0 (by omega) hk
theorem who06 : log_Who.f [(⟨1, 10⟩ : EN), (⟨2, 12⟩ : EN), (⟨1, 13⟩ : EN)] 14 9 = some [1, 2] := by
  rw [who_eq _ (by decide) (by unfold WfE; decide)]
  decide +kernel
theorem known06_at : l06_known.f 30 = some true := by
  unfold l06_known.f
  simp only [Option.bind_some]
  rw [who06]
  decide +kernel
theorem known06 (k : Nat) (hk : 30 ≤ k) : l06_known.f k = some true := lleo_up l06_known.mono hk known06_at
end Go.Proofs.Ytbedfoeifaegmaa.Facts
