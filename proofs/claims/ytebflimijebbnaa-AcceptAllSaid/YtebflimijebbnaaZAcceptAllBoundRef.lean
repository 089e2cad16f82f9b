import Derived.Test.YtebflimijebbnaaZAcceptAllGn24
import Derived.Test.YtebflimijebbnaaZAcceptAllGn0
import Derived.Test.YtebflimijebbnaaZAcceptAllGn2
import Derived.Test.YtebflimijebbnaaZAcceptAllGn21
import Derived.Test.YtebflimijebbnaaZAcceptAllRingFacts0
import Derived.Test.YtebflimijebbnaaZAcceptAllConfFacts
import Derived.Test.YtebflimijebbnaaZAcceptAllBoundFacts
import Derived.Test.YtebflimijebbnaaZAcceptAllGn5
import Derived.Test.YtebflimijebbnaaZAcceptAllGn22
import Derived.Test.YtebflimijebbnaaZAcceptAllGn9
import Derived.Test.YtebflimijebbnaaZAcceptAllGn26
import Derived.Test.YtebflimijebbnaaZAcceptAllGn8
import Derived.Test.YtebflimijebbnaaZAcceptAllGn25
namespace Go.Proofs.Ytebflimijebbnaa.Facts
open Go.RowKit Go.Proofs.Ytebflimijebbnaa.Gn Go.Proofs.YtebflimijebbnaaW.PrintWords Go.Proofs.YtebflimijebbnaaW.PrintLast
set_option linter.unusedVariables false
set_option linter.unusedSimpArgs false
section
variable (c0 c1 c2 c3 c4 c5 c6 c7 c8 c9 : Int) (l : List Int)
theorem ref_begin_eq (k : Nat) (hk : 700 ≤ k) (i : Int) : r04_Begin.f k c0 c1 c2 c3 c4 c5 c6 c7 c8 c9 l i = some (if plainE c0 c1 c2 c3 c4 c5 c6 c7 c8 c9 l = 0 ∧ 0 ≤ i ∧ i < l.length then beginV c6 c7 i else 0) := by
  unfold r04_Begin.f
  rw [ref_plain_eq _ _ _ _ _ _ _ _ _ _ _ k hk, Option.bind_some]
  by_cases hp : plainE c0 c1 c2 c3 c4 c5 c6 c7 c8 c9 l = 0
  · rw [if_pos hp]
    by_cases h0 : i < 0
    · rw [if_pos h0, if_neg (by omega)]
    · rw [if_neg h0]
      by_cases h1 : i ≥ l.length
      · rw [if_pos h1, if_neg (by omega)]
      · rw [if_neg h1, if_pos ⟨hp, by omega, by omega⟩, begin_w (plain_iff.1 hp) ⟨by omega, by omega⟩]
  · rw [if_neg hp, if_neg (fun x => hp x.1)]
theorem ref_middle_eq (k : Nat) (hk : 700 ≤ k) (i : Int) : r04_Middle.f k c0 c1 c2 c3 c4 c5 c6 c7 c8 c9 l i = some (if plainE c0 c1 c2 c3 c4 c5 c6 c7 c8 c9 l = 0 ∧ 0 ≤ i ∧ i < l.length then middleV c6 c7 i else 0) := by
  unfold r04_Middle.f
  rw [ref_plain_eq _ _ _ _ _ _ _ _ _ _ _ k hk, Option.bind_some]
  by_cases hp : plainE c0 c1 c2 c3 c4 c5 c6 c7 c8 c9 l = 0
  · rw [if_pos hp]
    by_cases h0 : i < 0
    · rw [if_pos h0, if_neg (by omega)]
    · rw [if_neg h0]
      by_cases h1 : i ≥ l.length
      · rw [if_pos h1, if_neg (by omega)]
      · have hi : 0 ≤ i ∧ i < l.length := ⟨by omega, by omega⟩
        rw [if_neg h1, ref_begin_eq _ _ _ _ _ _ _ _ _ _ _ k hk, Option.bind_some, if_pos ⟨hp, hi⟩, if_pos ⟨hp, hi⟩, middle_w (plain_iff.1 hp) hi]
  · rw [if_neg hp, if_neg (fun x => hp x.1)]
theorem ref_guard_eq (k : Nat) (hk : 700 ≤ k) : r04_Guard.f k c0 c1 c2 c3 c4 c5 c6 c7 c8 c9 l = some (if plainE c0 c1 c2 c3 c4 c5 c6 c7 c8 c9 l = 0 then guardV c2 c4 c5 c6 c7 l.length else 0) := by
  unfold r04_Guard.f
  rw [ref_plain_eq _ _ _ _ _ _ _ _ _ _ _ k hk, Option.bind_some]
  by_cases hp : plainE c0 c1 c2 c3 c4 c5 c6 c7 c8 c9 l = 0
  · have h := plain_iff.1 hp
    have a := apart_bd h
    have hr := h.r
    have hd := h.dr
    have q : 0 ≤ 2 * c5 * middleV c6 c7 (l.length - 1) / (c4 - c5) := Int.ediv_nonneg (by omega) (by omega)
    have q2 : 2 * c5 * middleV c6 c7 (l.length - 1) / (c4 - c5) ≤ 2 * c5 * middleV c6 c7 (l.length - 1) := Int.ediv_le_self _ (by omega)
    have ce := ceil_eq (a := 2 * c5 * middleV c6 c7 (l.length - 1)) (b := c4 - c5) (by omega) (by omega)
    rw [if_pos hp, if_pos hp, len_w h, ref_middle_eq _ _ _ _ _ _ _ _ _ _ _ k hk, Option.bind_some, if_pos (And.intro hp (last_i h)), slow_w h, if_neg (by omega), w64 (a := 2 * c5) (by omega), w64 (a := 2 * c5 * middleV c6 c7 (l.length - 1)) (by omega), Int.tdiv_eq_ediv_of_nonneg (by omega), Int.tmod_eq_emod_of_nonneg (by omega)]
    unfold guardV
    rw [ce]
    by_cases hm : 2 * c5 * middleV c6 c7 (l.length - 1) % (c4 - c5) > 0
    · rw [if_pos hm, if_pos hm, w64 (a := 2 * c5 * middleV c6 c7 (l.length - 1) / (c4 - c5)) (by omega), guard_tail h _ ⟨by omega, by omega⟩]
    · rw [if_neg hm, if_neg hm, guard_tail h _ ⟨by omega, by omega⟩, Int.add_zero]
  · rw [if_neg hp, if_neg hp]
end
end Go.Proofs.Ytebflimijebbnaa.Facts
namespace Go.Proofs.Ytebflimijebbnaa.Facts
open Go.RowKit Go.Proofs.Ytebflimijebbnaa.Gn Go.Proofs.YtebflimijebbnaaW.PrintWords Go.Proofs.YtebflimijebbnaaW.PrintLast
set_option linter.unusedVariables false
section
variable (c0 c1 c2 c3 c4 c5 c6 c7 c8 c9 : Int) (l : List Int)
def ownerV (i : Int) : Int := if plainE c0 c1 c2 c3 c4 c5 c6 c7 c8 c9 l = 0 ∧ 0 ≤ i ∧ i < l.length then rd l i else -1
theorem owner_eq (i : Int) (k : Nat) (hk : 9 ≤ k) : sched_Owner.f k c0 c1 c2 c3 c4 c5 c6 c7 c8 c9 l i = some (ownerV c0 c1 c2 c3 c4 c5 c6 c7 c8 c9 l i) := by
  unfold sched_Owner.f ownerV
  rw [plain_eq k (by omega), Option.bind_some]
  by_cases hp : plainE c0 c1 c2 c3 c4 c5 c6 c7 c8 c9 l = 0
  · rw [if_pos hp]
    by_cases c : i < 0
    · rw [if_pos c, if_neg (fun x => by omega)]
    · rw [if_neg c]
      by_cases cc : i ≥ (l.length : Int)
      · rw [if_pos cc, if_neg (fun x => by omega)]
      · rw [if_neg cc, if_pos (by omega), if_pos (by omega), if_pos ⟨hp, by omega, by omega⟩]
  · rw [if_neg hp, if_neg (fun x => hp x.1)]
theorem rowner_eq (i : Int) (k : Nat) (hk : 740 ≤ k) : r21_Owner.f k c0 c1 c2 c3 c4 c5 c6 c7 c8 c9 l i = some (ownerV c0 c1 c2 c3 c4 c5 c6 c7 c8 c9 l i) := by
  unfold r21_Owner.f ownerV
  rw [ref_plain_eq _ _ _ _ _ _ _ _ _ _ _ k (by omega), Option.bind_some]
  by_cases hp : plainE c0 c1 c2 c3 c4 c5 c6 c7 c8 c9 l = 0
  · rw [if_pos hp]
    by_cases c : i < 0
    · rw [if_pos c, if_neg (fun x => by omega)]
    · rw [if_neg c]
      by_cases cc : i ≥ (l.length : Int)
      · rw [if_pos cc, if_neg (fun x => by omega)]
      · rw [if_neg cc, if_pos (by omega), if_pos (by omega), if_pos ⟨hp, by omega, by omega⟩]
  · rw [if_neg hp, if_neg (fun x => hp x.1)]
theorem rd_owner (h : Plain c0 c1 c2 c3 c4 c5 c6 c7 c8 c9 l) {i : Int} (hi : 0 ≤ i ∧ i < l.length) : 0 ≤ rd l i ∧ rd l i < c0 := by
  obtain ⟨j, rfl⟩ := Int.eq_ofNat_of_zero_le hi.1
  rw [rd_at l j (by omega)]
  exact h.own _ (List.getElem_mem _)
end
end Go.Proofs.Ytebflimijebbnaa.Facts
namespace Go.Proofs.Ytebflimijebbnaa.Facts
open Go.RowKit Go.Proofs.Ytebflimijebbnaa.Gn Go.Proofs.YtebflimijebbnaaW.PrintWords Go.Proofs.YtebflimijebbnaaW.PrintLast
theorem tmod_emod (a : Int) : (if Int.tmod a 65536 < 0 then wrap64 (Int.tmod a 65536 + 65536) else Int.tmod a 65536) = a % 65536 := by
  have h := Int.tmod_eq_emod (a := a) (b := 65536)
  unfold wrap64
  split <;> split at h <;> omega
theorem mod_wrap (a : Int) : num_Mod.f a 65536 = some (a % 65536) := by
  unfold num_Mod.f
  rw [if_neg (by decide), if_neg (by decide), ← tmod_emod a]
  split <;> rfl
theorem put_put (a : Int) : ring_put.f a = some (a % 65536) := by simp [ring_put.f, mod_wrap]
theorem diff_eq (a b : Int) : ring_Diff.f a b = some ((a - b) % 65536) := by
  simp only [ring_Diff.f, ring_clock_from.f, put_put, Option.bind_some]
  rw [w64 (by omega)]
  congr 1
  omega
theorem ref_mod_wrap (a : Int) : r01_Mod.f a 65536 = some (a % 65536) := by
  unfold r01_Mod.f
  rw [if_neg (by decide), if_neg (by decide), ← tmod_emod a]
  split <;> rfl
theorem ref_put_eq (a : Int) : r05_Put.f a = some (a % 65536) := by simp [r05_Put.f, ref_mod_wrap]
theorem ref_diff_eq (a b : Int) : r05_Diff.f a b = some ((a - b) % 65536) := by
  simp only [r05_Diff.f, ref_put_eq, Option.bind_some]
  rw [w64 (by omega)]
  congr 1
  omega
theorem elapsed_eq (a b : Int) : slot_Elapsed.f a b = some ((a - b) % 65536) := by
  unfold slot_Elapsed.f
  rw [diff_eq]
  rfl
theorem relapsed_eq (a b : Int) : r22_Elapsed.f a b = some ((a - b) % 65536) := by
  unfold r22_Elapsed.f
  rw [ref_diff_eq]
  rfl
end Go.Proofs.Ytebflimijebbnaa.Facts
namespace Go.Proofs.Ytebflimijebbnaa.Facts
open Go.RowKit Go.Proofs.Ytebflimijebbnaa.Gn Go.Proofs.YtebflimijebbnaaW.PrintWords Go.Proofs.YtebflimijebbnaaW.PrintLast
set_option linter.unusedVariables false
section
variable (c0 c1 c2 c3 c4 c5 c6 c7 c8 c9 : Int) (l : List Int)
def lowV (i : Int) : Int := middleV c6 c7 i + c2 * c4 - guardV c2 c4 c5 c6 c7 l.length
def highV (i : Int) : Int := middleV c6 c7 i + c2 * c4 + guardV c2 c4 c5 c6 c7 l.length
def windowV (i : Int) : Int × Int := if plainE c0 c1 c2 c3 c4 c5 c6 c7 c8 c9 l = 0 ∧ 0 ≤ i ∧ i < l.length then (lowV c2 c4 c5 c6 c7 l i, highV c2 c4 c5 c6 c7 l i) else (0, 0)
theorem window_bd (h : Plain c0 c1 c2 c3 c4 c5 c6 c7 c8 c9 l) {i : Int} (hi : 0 ≤ i ∧ i < l.length) : wrap64 (wrap64 (middleV c6 c7 i + wrap64 (c2 * c4)) - guardV c2 c4 c5 c6 c7 l.length) = lowV c2 c4 c5 c6 c7 l i ∧ wrap64 (wrap64 (middleV c6 c7 i + wrap64 (c2 * c4)) + guardV c2 c4 c5 c6 c7 l.length) = highV c2 c4 c5 c6 c7 l i := by
  have hm := middle_bd h hi
  have hg := guard_bd h
  have hd := h.d
  have hr := h.r
  have b := mul_bd (x := c2) (y := c4) (a := 4) (b := 64) ⟨by omega, by omega⟩ ⟨by omega, by omega⟩
  rw [w64 (a := c2 * c4) (by omega), w64 (a := middleV c6 c7 i + c2 * c4) (by omega), w64 (by omega), w64 (by omega)]
  exact ⟨rfl, rfl⟩
theorem window_eq (i : Int) (k : Nat) (hk : 9 ≤ k) : slot_Window.f k c0 c1 c2 c3 c4 c5 c6 c7 c8 c9 l i = some (windowV c0 c1 c2 c3 c4 c5 c6 c7 c8 c9 l i) := by
  unfold slot_Window.f windowV
  rw [owner_eq _ _ _ _ _ _ _ _ _ _ _ _ k hk, Option.bind_some]
  unfold ownerV
  by_cases c : plainE c0 c1 c2 c3 c4 c5 c6 c7 c8 c9 l = 0 ∧ 0 ≤ i ∧ i < l.length
  · have h := plain_iff.1 c.1
    have := rd_owner _ _ _ _ _ _ _ _ _ _ _ h c.2
    obtain ⟨e1, e2⟩ := window_bd _ _ _ _ _ _ _ _ _ _ _ h c.2
    rw [if_pos c, if_pos c, if_neg (by omega), middle_eq _ _ _ _ _ _ _ _ _ _ _ k (by omega), Option.bind_some, if_pos c, guard_eq _ _ _ _ _ _ _ _ _ _ _ k (by omega), Option.bind_some, if_pos c.1, e1, e2]
  · rw [if_neg c, if_neg c, if_pos rfl]
theorem rwindow_eq (i : Int) (k : Nat) (hk : 740 ≤ k) : r22_Window.f k c0 c1 c2 c3 c4 c5 c6 c7 c8 c9 l i = some (windowV c0 c1 c2 c3 c4 c5 c6 c7 c8 c9 l i) := by
  unfold r22_Window.f windowV
  rw [rowner_eq _ _ _ _ _ _ _ _ _ _ _ _ k hk, Option.bind_some]
  unfold ownerV
  by_cases c : plainE c0 c1 c2 c3 c4 c5 c6 c7 c8 c9 l = 0 ∧ 0 ≤ i ∧ i < l.length
  · have h := plain_iff.1 c.1
    have := rd_owner _ _ _ _ _ _ _ _ _ _ _ h c.2
    obtain ⟨e1, e2⟩ := window_bd _ _ _ _ _ _ _ _ _ _ _ h c.2
    rw [if_pos c, if_pos c, if_neg (by omega), ref_middle_eq _ _ _ _ _ _ _ _ _ _ _ k (by omega), Option.bind_some, if_pos c, ref_guard_eq _ _ _ _ _ _ _ _ _ _ _ k (by omega), Option.bind_some, if_pos c.1, Option.bind_some, e1, e2]
  · rw [if_neg c, if_neg c, if_pos (by decide)]
end
end Go.Proofs.Ytebflimijebbnaa.Facts
