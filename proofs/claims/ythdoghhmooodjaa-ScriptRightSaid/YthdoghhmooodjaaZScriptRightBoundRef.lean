import Derived.Test.YthdoghhmooodjaaZScriptRightGn26
import Derived.Test.YthdoghhmooodjaaZScriptRightGn27
import Derived.Test.YthdoghhmooodjaaZScriptRightGn0
import Derived.Test.YthdoghhmooodjaaZScriptRightGn1
import Derived.Test.YthdoghhmooodjaaZScriptRightGn25
import Derived.Test.YthdoghhmooodjaaZScriptRightRingFacts0
import Derived.Test.YthdoghhmooodjaaZScriptRightConfFacts
import Derived.Test.YthdoghhmooodjaaZScriptRightBoundFacts
namespace Go.Proofs.Ythdoghhmooodjaa.Facts
open Go.RowKit Go.Proofs.Ythdoghhmooodjaa.Gn Go.Proofs.YthdoghhmooodjaaW.PrintWords Go.Proofs.YthdoghhmooodjaaW.PrintLast
set_option linter.unusedVariables false
set_option linter.unusedSimpArgs false
section
variable (c0 c1 c2 c3 c4 c5 c6 c7 c8 c9 : Int) (l : List Int)
theorem ref_begin_eq (k : Nat) (hk : 700 ≤ k) (i : Int) : r04_Begin.f k c0 c1 c2 c3 c4 c5 c6 c7 c8 c9 l i = some (if plainE c0 c1 c2 c3 c4 c5 c6 c7 c8 c9 l = 0 ∧ 0 ≤ i ∧ i < l.length then beginV c6 c7 i else 0) := by
  unfold r04_Begin.f
  rw [ref_plain_eq _ _ _ _ _ _ _ _ _ _ _ k hk, Option.bind_some]
  by_cases hp : plainE c0 c1 c2 c3 c4 c5 c6 c7 c8 c9 l = 0
  · rw [if_pos hp]
    by_cases h0 : i < 0
    · rw [if_pos h0, if_neg (by omega)]
    · rw [if_neg h0]
      by_cases h1 : i ≥ l.length
      · rw [if_pos h1, if_neg (by omega)]
      · rw [if_neg h1, if_pos ⟨hp, by omega, by omega⟩, begin_w (plain_iff.1 hp) ⟨by omega, by omega⟩]
  · rw [if_neg hp, if_neg (fun x => hp x.1)]
theorem ref_middle_eq (k : Nat) (hk : 700 ≤ k) (i : Int) : r04_Middle.f k c0 c1 c2 c3 c4 c5 c6 c7 c8 c9 l i = some (if plainE c0 c1 c2 c3 c4 c5 c6 c7 c8 c9 l = 0 ∧ 0 ≤ i ∧ i < l.length then middleV c6 c7 i else 0) := by
  unfold r04_Middle.f
  rw [ref_plain_eq _ _ _ _ _ _ _ _ _ _ _ k hk, Option.bind_some]
  by_cases hp : plainE c0 c1 c2 c3 c4 c5 c6 c7 c8 c9 l = 0
  · rw [if_pos hp]
    by_cases h0 : i < 0
    · rw [if_pos h0, if_neg (by omega)]
    · rw [if_neg h0]
      by_cases h1 : i ≥ l.length
      · rw [if_pos h1, if_neg (by omega)]
      · have hi : 0 ≤ i ∧ i < l.length := ⟨by omega, by omega⟩
        rw [if_neg h1, ref_begin_eq _ _ _ _ _ _ _ _ _ _ _ k hk, Option.bind_some, if_pos ⟨hp, hi⟩, if_pos ⟨hp, hi⟩, middle_w (plain_iff.1 hp) hi]
  · rw [if_neg hp, if_neg (fun x => hp x.1)]
theorem ref_guard_eq (k : Nat) (hk : 700 ≤ k) : r04_Guard.f k c0 c1 c2 c3 c4 c5 c6 c7 c8 c9 l = some (if plainE c0 c1 c2 c3 c4 c5 c6 c7 c8 c9 l = 0 then guardV c2 c4 c5 c6 c7 l.length else 0) := by
  unfold r04_Guard.f
  rw [ref_plain_eq _ _ _ _ _ _ _ _ _ _ _ k hk, Option.bind_some]
  by_cases hp : plainE c0 c1 c2 c3 c4 c5 c6 c7 c8 c9 l = 0
  · have h := plain_iff.1 hp
    have a := apart_bd h
    have hr := h.r
    have hd := h.dr
    have q : 0 ≤ 2 * c5 * middleV c6 c7 (l.length - 1) / (c4 - c5) := Int.ediv_nonneg (by omega) (by omega)
    have q2 : 2 * c5 * middleV c6 c7 (l.length - 1) / (c4 - c5) ≤ 2 * c5 * middleV c6 c7 (l.length - 1) := Int.ediv_le_self _ (by omega)
    have ce := ceil_eq (a := 2 * c5 * middleV c6 c7 (l.length - 1)) (b := c4 - c5) (by omega) (by omega)
    rw [if_pos hp, if_pos hp, len_w h, ref_middle_eq _ _ _ _ _ _ _ _ _ _ _ k hk, Option.bind_some, if_pos (And.intro hp (last_i h)), slow_w h, if_neg (by omega), w64 (a := 2 * c5) (by omega), w64 (a := 2 * c5 * middleV c6 c7 (l.length - 1)) (by omega), Int.tdiv_eq_ediv_of_nonneg (by omega), Int.tmod_eq_emod_of_nonneg (by omega)]
    unfold guardV
    rw [ce]
    by_cases hm : 2 * c5 * middleV c6 c7 (l.length - 1) % (c4 - c5) > 0
    · rw [if_pos hm, if_pos hm, w64 (a := 2 * c5 * middleV c6 c7 (l.length - 1) / (c4 - c5)) (by omega), guard_tail h _ ⟨by omega, by omega⟩]
    · rw [if_neg hm, if_neg hm, guard_tail h _ ⟨by omega, by omega⟩, Int.add_zero]
  · rw [if_neg hp, if_neg hp]
theorem ref_right_eq (k : Nat) (hk : 700 ≤ k) : r04_Right.f k c0 c1 c2 c3 c4 c5 c6 c7 c8 c9 l = some (rightE c0 c1 c2 c3 c4 c5 c6 c7 c8 c9 l) := by
  unfold r04_Right.f rightE
  rw [ref_plain_eq _ _ _ _ _ _ _ _ _ _ _ k hk, Option.bind_some]
  by_cases hp : plainE c0 c1 c2 c3 c4 c5 c6 c7 c8 c9 l = 0
  · have h := plain_iff.1 hp
    have gb := guard_bd h
    have mb := middle_bd h (last_i h)
    have hr := h.r
    have hd := h.dr
    have hdd := h.d
    have hpp := h.p
    have hp0 := h.p0
    have b1 := mul_bd (x := c2) (y := c4) (a := 4) (b := 64) ⟨by omega, by omega⟩ ⟨by omega, by omega⟩
    have b2 := mul_bd (x := c3 - 1) (y := c4 - c5) (a := 400) (b := 64) ⟨by omega, by omega⟩ ⟨by omega, by omega⟩
    have b3 := mul_bd (x := c3) (y := c4 + c5) (a := 400) (b := 128) ⟨by omega, by omega⟩ ⟨by omega, by omega⟩
    rw [if_pos hp, if_pos hp, ref_guard_eq _ _ _ _ _ _ _ _ _ _ _ k hk, Option.bind_some, if_pos hp, len_w h, ref_middle_eq _ _ _ _ _ _ _ _ _ _ _ k hk, Option.bind_some, if_pos (And.intro hp (last_i h)), slow_w h, fast_w h]
    rw [w64 (a := 2 * guardV c2 c4 c5 c6 c7 l.length) (by omega), w64 (a := c2 * c4) (by omega), w64 (a := middleV c6 c7 (l.length - 1) + c2 * c4) (by omega), w64 (a := middleV c6 c7 (l.length - 1) + c2 * c4 + guardV c2 c4 c5 c6 c7 l.length) (by omega), w64 (a := c3 - 1) (by omega), w64 (a := (c3 - 1) * (c4 - c5)) (by omega), w64 (a := c3 * (c4 + c5)) (by omega)]
    by_cases g1 : c7 ≤ 2 * guardV c2 c4 c5 c6 c7 l.length
    · rw [if_pos g1, if_neg (fun x => absurd x.1 (by omega))]
    · rw [if_neg g1]
      by_cases g2 : middleV c6 c7 (l.length - 1) + c2 * c4 + guardV c2 c4 c5 c6 c7 l.length > (c3 - 1) * (c4 - c5)
      · rw [if_pos g2, if_neg (fun x => absurd x.2.1 (by omega))]
      · rw [if_neg g2]
        by_cases g3 : c3 * (c4 + c5) ≥ 32768
        · rw [if_pos g3, if_neg (fun x => absurd x.2.2 (by omega))]
        · rw [if_neg g3, if_pos ⟨by omega, by omega, by omega⟩]
  · rw [if_neg hp, if_neg hp]
    rfl
end
end Go.Proofs.Ythdoghhmooodjaa.Facts
