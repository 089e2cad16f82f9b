import Derived.Test.YtebflimijebbnaaZAcceptOwnersGn5
import Derived.Test.YtebflimijebbnaaZAcceptOwnersGn22
import Derived.Test.YtebflimijebbnaaZAcceptOwnersRingFacts0
import Derived.Test.YtebflimijebbnaaZAcceptOwnersConfFacts
import Derived.Test.YtebflimijebbnaaZAcceptOwnersBoundFacts
import Derived.Test.YtebflimijebbnaaZAcceptOwnersBoundRef
import Derived.Test.YtebflimijebbnaaZAcceptOwnersGn9
import Derived.Test.YtebflimijebbnaaZAcceptOwnersGn10
import Derived.Test.YtebflimijebbnaaZAcceptOwnersGn11
import Derived.Test.YtebflimijebbnaaZAcceptOwnersGn26
import Derived.Test.YtebflimijebbnaaZAcceptOwnersGn27
import Derived.Test.YtebflimijebbnaaZAcceptOwnersGn0
namespace Go.Proofs.Ytebflimijebbnaa.Facts
open Go.RowKit Go.Proofs.Ytebflimijebbnaa.Gn Go.Proofs.YtebflimijebbnaaW.PrintWords Go.Proofs.YtebflimijebbnaaW.PrintLast
set_option linter.unusedVariables false
section
variable (c0 c1 c2 c3 c4 c5 c6 c7 c8 c9 : Int) (l : List Int)
def ownerV (i : Int) : Int := if plainE c0 c1 c2 c3 c4 c5 c6 c7 c8 c9 l = 0 ∧ 0 ≤ i ∧ i < l.length then rd l i else -1
theorem owner_eq (i : Int) (k : Nat) (hk : 9 ≤ k) : sched_Owner.f k c0 c1 c2 c3 c4 c5 c6 c7 c8 c9 l i = some (ownerV c0 c1 c2 c3 c4 c5 c6 c7 c8 c9 l i) := by
  unfold sched_Owner.f ownerV
  rw [plain_eq k (by omega), Option.bind_some]
  by_cases hp : plainE c0 c1 c2 c3 c4 c5 c6 c7 c8 c9 l = 0
  · rw [if_pos hp]
    by_cases c : i < 0
    · rw [if_pos c, if_neg (fun x => by omega)]
    · rw [if_neg c]
      by_cases cc : i ≥ (l.length : Int)
      · rw [if_pos cc, if_neg (fun x => by omega)]
      · rw [if_neg cc, if_pos (by omega), if_pos (by omega), if_pos ⟨hp, by omega, by omega⟩]
  · rw [if_neg hp, if_neg (fun x => hp x.1)]
theorem rowner_eq (i : Int) (k : Nat) (hk : 740 ≤ k) : r21_Owner.f k c0 c1 c2 c3 c4 c5 c6 c7 c8 c9 l i = some (ownerV c0 c1 c2 c3 c4 c5 c6 c7 c8 c9 l i) := by
  unfold r21_Owner.f ownerV
  rw [ref_plain_eq _ _ _ _ _ _ _ _ _ _ _ k (by omega), Option.bind_some]
  by_cases hp : plainE c0 c1 c2 c3 c4 c5 c6 c7 c8 c9 l = 0
  · rw [if_pos hp]
    by_cases c : i < 0
    · rw [if_pos c, if_neg (fun x => by omega)]
    · rw [if_neg c]
      by_cases cc : i ≥ (l.length : Int)
      · rw [if_pos cc, if_neg (fun x => by omega)]
      · rw [if_neg cc, if_pos (by omega), if_pos (by omega), if_pos ⟨hp, by omega, by omega⟩]
  · rw [if_neg hp, if_neg (fun x => hp x.1)]
theorem rd_owner (h : Plain c0 c1 c2 c3 c4 c5 c6 c7 c8 c9 l) {i : Int} (hi : 0 ≤ i ∧ i < l.length) : 0 ≤ rd l i ∧ rd l i < c0 := by
  obtain ⟨j, rfl⟩ := Int.eq_ofNat_of_zero_le hi.1
  rw [rd_at l j (by omega)]
  exact h.own _ (List.getElem_mem _)
end
end Go.Proofs.Ytebflimijebbnaa.Facts
namespace Go.Proofs.Ytebflimijebbnaa.Facts
open Go.RowKit Go.Proofs.Ytebflimijebbnaa.Gn Go.Proofs.YtebflimijebbnaaW.PrintWords Go.Proofs.YtebflimijebbnaaW.PrintLast
theorem tmod_emod (a : Int) : (if Int.tmod a 65536 < 0 then wrap64 (Int.tmod a 65536 + 65536) else Int.tmod a 65536) = a % 65536 := by
  have h := Int.tmod_eq_emod (a := a) (b := 65536)
  unfold wrap64
  split <;> split at h <;> omega
theorem mod_wrap (a : Int) : num_Mod.f a 65536 = some (a % 65536) := by
  unfold num_Mod.f
  rw [if_neg (by decide), if_neg (by decide), ← tmod_emod a]
  split <;> rfl
theorem put_put (a : Int) : ring_put.f a = some (a % 65536) := by simp [ring_put.f, mod_wrap]
theorem diff_eq (a b : Int) : ring_Diff.f a b = some ((a - b) % 65536) := by
  simp only [ring_Diff.f, ring_clock_from.f, put_put, Option.bind_some]
  rw [w64 (by omega)]
  congr 1
  omega
theorem ref_mod_wrap (a : Int) : r01_Mod.f a 65536 = some (a % 65536) := by
  unfold r01_Mod.f
  rw [if_neg (by decide), if_neg (by decide), ← tmod_emod a]
  split <;> rfl
theorem ref_put_eq (a : Int) : r05_Put.f a = some (a % 65536) := by simp [r05_Put.f, ref_mod_wrap]
theorem ref_diff_eq (a b : Int) : r05_Diff.f a b = some ((a - b) % 65536) := by
  simp only [r05_Diff.f, ref_put_eq, Option.bind_some]
  rw [w64 (by omega)]
  congr 1
  omega
theorem elapsed_eq (a b : Int) : slot_Elapsed.f a b = some ((a - b) % 65536) := by
  unfold slot_Elapsed.f
  rw [diff_eq]
  rfl
end Go.Proofs.Ytebflimijebbnaa.Facts
