import Derived.Test.YtbedfoeifaegmaaZLogCapsGn6
import Derived.Test.YtbedfoeifaegmaaZLogCapsGn16
import Derived.Test.YtbedfoeifaegmaaZLogCapsGn0
import Derived.Test.YtbedfoeifaegmaaZLogCapsGn2
import Derived.Test.YtbedfoeifaegmaaZLogCapsGn34
import Derived.Test.YtbedfoeifaegmaaZLogCapsGn36
import Derived.Test.YtbedfoeifaegmaaZLogCapsGn37
import Derived.Test.YtbedfoeifaegmaaZLogCapsLogFacts
namespace Go.Proofs.Ytbedfoeifaegmaa.Facts
open Go.RowKit Go.Proofs.Ytbedfoeifaegmaa.Gn Go.Proofs.YtbedfoeifaegmaaW.PrintWords Go.Proofs.YtbedfoeifaegmaaW.PrintLast
set_option linter.unusedVariables false
/-- One more, in its place. -/
def insS : List Int → Int → List Int
  | [], x => [x]
  | y :: ys, x => if y < x then y :: insS ys x else if y = x then y :: ys else x :: y :: ys
theorem insS_mem (x z : Int) : ∀ l : List Int, z ∈ insS l x ↔ z = x ∨ z ∈ l
  | [] => by simp [insS]
  | y :: l => by
    unfold insS
    split
    · rw [List.mem_cons, insS_mem x z l, List.mem_cons]
      constructor
      · rintro (h | h | h)
        · exact .inr (.inl h)
        · exact .inl h
        · exact .inr (.inr h)
      · rintro (h | h | h)
        · exact .inr (.inl h)
        · exact .inl h
        · exact .inr (.inr h)
    · split
      · rename_i e
        subst e
        simp
      · simp
theorem insS_sorted (x : Int) : ∀ l : List Int, l.Pairwise (· < ·) → (insS l x).Pairwise (· < ·)
  | [], _ => by simp [insS]
  | y :: l, h => by
    have hy := List.pairwise_cons.1 h
    unfold insS
    split
    · rename_i hl
      refine List.pairwise_cons.2 ⟨fun z hz => ?_, insS_sorted x l hy.2⟩
      rcases (insS_mem x z l).1 hz with e | e
      · rw [e]; exact hl
      · exact hy.1 z e
    · split
      · exact h
      · refine List.pairwise_cons.2 ⟨fun z hz => ?_, h⟩
        rcases List.mem_cons.1 hz with e | e
        · omega
        · have := hy.1 z e
          omega
/-- Which ones, each once and in order. -/
def sortU (xs : List Int) : List Int := xs.foldl insS []
theorem sortF_mem (z : Int) : ∀ (xs acc : List Int), z ∈ xs.foldl insS acc ↔ z ∈ acc ∨ z ∈ xs
  | [], acc => by simp
  | x :: xs, acc => by
    rw [List.foldl_cons, sortF_mem z xs, insS_mem, List.mem_cons]
    constructor
    · rintro ((h | h) | h)
      · exact .inr (.inl h)
      · exact .inl h
      · exact .inr (.inr h)
    · rintro (h | h | h)
      · exact .inl (.inr h)
      · exact .inl (.inl h)
      · exact .inr h
theorem sortF_sorted : ∀ (xs acc : List Int), acc.Pairwise (· < ·) → (xs.foldl insS acc).Pairwise (· < ·)
  | [], _, h => h
  | x :: xs, acc, h => sortF_sorted xs _ (insS_sorted x acc h)
theorem sortU_mem (z : Int) (xs : List Int) : z ∈ sortU xs ↔ z ∈ xs := by
  unfold sortU
  rw [sortF_mem]
  simp
theorem sortU_sorted (xs : List Int) : (sortU xs).Pairwise (· < ·) := sortF_sorted xs [] List.Pairwise.nil
theorem sortU_nodup (xs : List Int) : (sortU xs).Nodup := (sortU_sorted xs).imp (fun h e => by omega)
theorem sortU_perm (xs : List Int) : (sortU xs).Perm (uniqL xs) :=
  (List.perm_ext_iff_of_nodup (sortU_nodup xs) (uniqL_nodup xs)).2 (fun z => by rw [sortU_mem, uniqL_mem])
theorem sortU_eq (xs : List Int) : ((uniqL xs).mergeSort fun x y => decide (x ≤ y)) = sortU xs := by
  have h1 : ((uniqL xs).mergeSort fun x y => decide (x ≤ y)).Pairwise (fun a b => decide (a ≤ b) = true) :=
    List.pairwise_mergeSort (fun a b c h1 h2 => by simp at *; omega) (fun a b => by simp; omega) _
  have h2 : (sortU xs).Pairwise (fun a b => decide (a ≤ b) = true) := (sortU_sorted xs).imp (fun h => by simp; omega)
  exact List.Perm.eq_of_pairwise (fun a b _ _ h1 h2 => by simp at *; omega) h1 h2 ((List.mergeSort_perm _ _).trans (sortU_perm xs).symm)
/-- Of which nodes the notes are that are alive. -/
def whoV (now width : Int) (l : List EN) : List Int := sortU ((prg now width l).map (·.f0))
theorem who_eq (l : List EN) (hl : l.length ≤ 1000) (hw : WfE l) (now width : Int) : log_Who.f l now width = some (whoV now width l) := by
  unfold log_Who.f
  rw [if_pos ⟨seesAll_true _ _ _, List.all_eq_true.2 hw, by omega⟩, aliveL_full, sortU_eq]
  rfl
theorem who06 : log_Who.f [(⟨1, 10⟩ : EN), (⟨2, 12⟩ : EN), (⟨1, 13⟩ : EN)] 14 9 = some [1, 2] := by
  rw [who_eq _ (by decide) (by unfold WfE; decide)]
  decide +kernel
theorem known06_at : l06_known.f 30 = some true := by
  unfold l06_known.f
  simp only [Option.bind_some]
  rw [who06]
  decide +kernel
theorem known06 (k : Nat) (hk : 30 ≤ k) : l06_known.f k = some true := lleo_up l06_known.mono hk known06_at
end Go.Proofs.Ytbedfoeifaegmaa.Facts
