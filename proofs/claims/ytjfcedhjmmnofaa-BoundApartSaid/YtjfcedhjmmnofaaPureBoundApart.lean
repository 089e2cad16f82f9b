import Derived.Test.YtjfcedhjmmnofaaStmtBoundApart
import Derived.Test.YtjfcedhjmmnofaaRingFacts0
import Derived.Test.YtjfcedhjmmnofaaConfFacts
import Derived.Test.YtjfcedhjmmnofaaBoundFacts
import Derived.Test.YtjfcedhjmmnofaaBoundKnown
namespace Go.Proofs.Ytjfcedhjmmnofaa.Pure
open Go.RowKit Go.Proofs.Ytjfcedhjmmnofaa.Gn Go.Proofs.YtjfcedhjmmnofaaW.PrintWords Go.Proofs.YtjfcedhjmmnofaaW.PrintLast Go.Proofs.Ytjfcedhjmmnofaa.Facts Go.Proofs.Ytjfcedhjmmnofaa.Opens
theorem apart_known (c0 c1 c2 c3 c4 c5 c6 c7 c8 c9 : Int) (l : List Int) (a b : Int) : bellwetherlaw04_BoundApart.j0 1000 a b true c0 c1 c2 c3 c4 c5 c6 c7 c8 c9 l = some true := by
  simp only [bellwetherlaw04_BoundApart.j0]
  rw [known04 999 (by omega)]
  simp
theorem apart_real {c0 c1 c2 c3 c4 c5 c6 c7 c8 c9 : Int} {l : List Int} (h : Plain c0 c1 c2 c3 c4 c5 c6 c7 c8 c9 l) (hR : RightP c2 c3 c4 c5 c6 c7 l.length) {a b : Int} (ha : 0 ≤ a) (hab : a < b) (hb : b < l.length) : bellwetherlaw04_BoundApart.j0 1000 a b false c0 c1 c2 c3 c4 c5 c6 c7 c8 c9 l = some true := by
  have hp := plain_iff.2 h
  have gb := guard_bd h
  have ma := middle_bd h (i := a) ⟨ha, by omega⟩
  have mb := middle_bd h (i := b) ⟨by omega, hb⟩
  have ml := middle_bd h (last_i h)
  have hr := h.r
  have hd := h.dr
  have hdd := h.d
  have hs := h.s
  have hpp := h.p
  have hp0 := h.p0
  obtain ⟨g1, g2, g3⟩ := hR
  have b1 := mul_bd (x := c2) (y := c4) (a := 4) (b := 64) ⟨by omega, by omega⟩ ⟨by omega, by omega⟩
  have b2 := mul_bd (x := c3 - 1) (y := c4 - c5) (a := 400) (b := 64) ⟨by omega, by omega⟩ ⟨by omega, by omega⟩
  have b3 := mul_bd (x := c3) (y := c4 + c5) (a := 400) (b := 128) ⟨by omega, by omega⟩ ⟨by omega, by omega⟩
  have far : middleV c6 c7 b - middleV c6 c7 a ≥ c7 := by
    have e : middleV c6 c7 b - middleV c6 c7 a = (b - a) * c7 := by unfold middleV; rw [Int.sub_mul]; omega
    have : 1 * c7 ≤ (b - a) * c7 := Int.mul_le_mul_of_nonneg_right (by omega) (by omega)
    omega
  have gr : guardV c2 c4 c5 c6 c7 l.length ≥ c4 + 2 * c5 := by
    have a1 := apart_bd h
    have q : 0 ≤ (2 * c5 * middleV c6 c7 (l.length - 1) + (c4 - c5) - 1) / (c4 - c5) := Int.ediv_nonneg (by omega) (by omega)
    have : 2 * c5 ≤ (c2 + 1) * c5 := Int.mul_le_mul_of_nonneg_right (by omega) (by omega)
    unfold guardV
    omega
  have ends : middleV c6 c7 b ≤ middleV c6 c7 (l.length - 1) := by
    have : b * c7 ≤ ((l.length : Int) - 1) * c7 := Int.mul_le_mul_of_nonneg_right (by omega) (by omega)
    unfold middleV
    omega
  simp only [bellwetherlaw04_BoundApart.j0]
  rw [if_neg (by decide), guard_eq _ _ _ _ _ _ _ _ _ _ _ 999 (by omega), middle_eq _ _ _ _ _ _ _ _ _ _ _ 999 (by omega), middle_eq _ _ _ _ _ _ _ _ _ _ _ 999 (by omega), known04 999 (by omega)]
  simp only [Option.bind_some]
  rw [if_pos hp, if_pos (show plainE c0 c1 c2 c3 c4 c5 c6 c7 c8 c9 l = 0 ∧ 0 ≤ b ∧ b < l.length from ⟨hp, by omega, hb⟩), if_pos (show plainE c0 c1 c2 c3 c4 c5 c6 c7 c8 c9 l = 0 ∧ 0 ≤ a ∧ a < l.length from ⟨hp, ha, by omega⟩), w64 (a := middleV c6 c7 b - middleV c6 c7 a) (by omega), w64 (a := 2 * guardV c2 c4 c5 c6 c7 l.length) (by omega), fast_w h, slow_w h, w64 (a := c2 * c4) (by omega), w64 (a := middleV c6 c7 b + c2 * c4) (by omega), w64 (a := middleV c6 c7 b + c2 * c4 + guardV c2 c4 c5 c6 c7 l.length) (by omega), w64 (a := c3 - 1) (by omega), w64 (a := (c3 - 1) * (c4 - c5)) (by omega), w64 (a := c3 * (c4 + c5)) (by omega)]
  rw [if_pos (by omega), if_pos (by omega), if_pos (by omega), if_pos (by omega)]
theorem BoundApart : Gn.BoundApart.Pure := by
  intro c a b _ _ _
  refine ⟨1000, ?_⟩
  unfold bellwetherlaw04_BoundApart.f
  rw [right_eq _ _ _ _ _ _ _ _ _ _ _ 1000 (by omega), Option.bind_some]
  by_cases hr : rightE c.f0 c.f1 c.f2 c.f3 c.f4 c.f5 c.f6 c.f7 c.f8 c.f9 c.f10 = 0
  · rw [if_pos hr]
    by_cases h0 : a < 0
    · rw [if_pos h0]; exact apart_known _ _ _ _ _ _ _ _ _ _ _ _ _
    rw [if_neg h0]
    by_cases h1 : a ≥ b
    · rw [if_pos h1]; exact apart_known _ _ _ _ _ _ _ _ _ _ _ _ _
    rw [if_neg h1]
    by_cases h2 : b ≥ (c.f10.length : Int)
    · rw [decide_eq_true h2]; exact apart_known _ _ _ _ _ _ _ _ _ _ _ _ _
    rw [decide_eq_false h2]
    unfold rightE at hr
    by_cases hp : plainE c.f0 c.f1 c.f2 c.f3 c.f4 c.f5 c.f6 c.f7 c.f8 c.f9 c.f10 = 0
    · rw [if_pos hp] at hr
      by_cases hR : RightP c.f2 c.f3 c.f4 c.f5 c.f6 c.f7 c.f10.length
      · exact apart_real (plain_iff.1 hp) hR (by omega) (by omega) (by omega)
      · rw [if_neg hR] at hr
        omega
    · rw [if_neg hp] at hr
      exact absurd hr hp
  · rw [if_neg hr]; exact apart_known _ _ _ _ _ _ _ _ _ _ _ _ _
end Go.Proofs.Ytjfcedhjmmnofaa.Pure
