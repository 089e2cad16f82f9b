import Derived.Test.YtdcknaoamjlaiaaZSlotHitsSlotFacts
import Derived.Test.YtdcknaoamjlaiaaZSlotHitsGn62
namespace Go.Proofs.Ytdcknaoamjlaiaa.Facts
open Go.RowKit Go.Proofs.Ytdcknaoamjlaiaa.Gn Go.Proofs.YtdcknaoamjlaiaaW.PrintWords Go.Proofs.YtdcknaoamjlaiaaW.PrintLast
set_option linter.unusedVariables false
/-- What holds of two clocks, tick by tick, till one comes to a slot's middle. -/
structure Run (s f d m a b t : Int) : Prop where
  a1 : s * t ≤ a
  b1 : s * t ≤ b
  a2 : a ≤ f * t
  b2 : b ≤ f * t
  up : b - a ≤ 2 * (d * t)
  dn : a - b ≤ 2 * (d * t)
  ini : (t = 0 ∧ a = 0 ∧ b = 0) ∨ (s * t - s < m ∧ a ≤ m - 1 + f ∧ b ≤ m - 1 + 2 * (d * t) - 2 * d + f)
theorem Run.step {s f d m a b t u v : Int} (h : Run s f d m a b t) (hs : 0 ≤ s) (hf : s = f - 2 * d) (hd : 0 ≤ d) (ha : a < m) (hu : s ≤ u ∧ u ≤ f) (hv : s ≤ v ∧ v ≤ f) (ht : 0 ≤ t) : Run s f d m (a + u) (b + v) (t + 1) := by
  obtain ⟨a1, b1, a2, b2, up, dn, ini⟩ := h
  have es : s * (t + 1) = s * t + s := by rw [Int.mul_add, Int.mul_one]
  have ef : f * (t + 1) = f * t + f := by rw [Int.mul_add, Int.mul_one]
  have ed : d * (t + 1) = d * t + d := by rw [Int.mul_add, Int.mul_one]
  have dt : 0 ≤ d * t := Int.mul_nonneg hd ht
  refine ⟨?_, ?_, ?_, ?_, ?_, ?_, Or.inr ⟨?_, ?_, ?_⟩⟩ <;> (try rw [es]) <;> (try rw [ef]) <;> (try rw [ed]) <;> omega
/-- Where the other clock may be, D ticks behind the one that came to the middle. -/
theorem Run.heard {c0 c1 c2 c3 c4 c5 c6 c7 c8 c9 : Int} {l : List Int} (h : Plain c0 c1 c2 c3 c4 c5 c6 c7 c8 c9 l) (hR : RightP c2 c3 c4 c5 c6 c7 l.length) {m a b t : Int} (hm : 0 ≤ m ∧ m ≤ middleV c6 c7 (l.length - 1)) (ht : 0 ≤ t) (hI : Run (c4 - c5) (c4 + c5) c5 m a b t) (ha : a ≥ m) :
    t + c2 < c3 ∧ ∀ b', b + c2 * (c4 - c5) ≤ b' → b' ≤ b + c2 * (c4 + c5) → m + c2 * c4 - guardV c2 c4 c5 c6 c7 l.length ≤ b' ∧ b' ≤ m + c2 * c4 + guardV c2 c4 c5 c6 c7 l.length := by
  have hd := h.d
  have hr := h.r
  have hdr := h.dr
  have hpp := h.p
  have hp0 := h.p0
  have ml := middle_bd h (last_i h)
  have gb := guard_bd h
  obtain ⟨g1, g2, g3⟩ := hR
  have ab := apart_bd h
  have b2 : 0 ≤ c2 * c5 := Int.mul_nonneg (by omega) (by omega)
  have e1 : (c2 + 1) * c5 = c2 * c5 + c5 := by rw [Int.add_mul, Int.one_mul]
  have e2 : c2 * (c4 - c5) = c2 * c4 - c2 * c5 := Int.mul_sub ..
  have e3 : c2 * (c4 + c5) = c2 * c4 + c2 * c5 := Int.mul_add ..
  have q0 : 0 ≤ (2 * c5 * middleV c6 c7 (l.length - 1) + (c4 - c5) - 1) / (c4 - c5) := Int.ediv_nonneg (by omega) (by omega)
  have gd : guardV c2 c4 c5 c6 c7 l.length = (2 * c5 * middleV c6 c7 (l.length - 1) + (c4 - c5) - 1) / (c4 - c5) + c4 + (c2 + 1) * c5 := rfl
  obtain ⟨a1, b1, a2, bb2, up, dn, ini⟩ := hI
  rcases ini with ⟨rfl, rfl, rfl⟩ | ⟨i1, i2, i3⟩
  · refine ⟨by omega, fun b' x1 x2 => ?_⟩
    rw [gd]
    omega
  · have pr : 2 * (c5 * t) - 2 * c5 ≤ (2 * c5 * middleV c6 c7 (l.length - 1) + (c4 - c5) - 1) / (c4 - c5) := by
      refine Int.le_ediv_of_mul_le (by omega) ?_
      have : 2 * c5 * ((c4 - c5) * t - (c4 - c5)) ≤ 2 * c5 * middleV c6 c7 (l.length - 1) := Int.mul_le_mul_of_nonneg_left (by omega) (by omega)
      have e : (2 * (c5 * t) - 2 * c5) * (c4 - c5) = 2 * c5 * ((c4 - c5) * t - (c4 - c5)) := by
        simp only [Int.sub_mul, Int.mul_sub, Int.mul_assoc, Int.mul_comm, Int.mul_left_comm]
      omega
    have dt : 0 ≤ c5 * t := Int.mul_nonneg (by omega) ht
    have gp : c4 + c5 ≤ guardV c2 c4 c5 c6 c7 l.length := by omega
    have tp : t + c2 < c3 := by
      by_cases e : t + c2 < c3
      · exact e
      · have : (c4 - c5) * (c3 - 1) ≤ (c4 - c5) * (t + c2 - 1) := Int.mul_le_mul_of_nonneg_left (by omega) (by omega)
        rw [Int.mul_comm (c4 - c5) (c3 - 1), show (c4 - c5) * (t + c2 - 1) = (c4 - c5) * t + c2 * (c4 - c5) - (c4 - c5) from by rw [Int.mul_sub, Int.mul_add, Int.mul_one, Int.mul_comm (c4 - c5) c2]] at this
        omega
    refine ⟨tp, fun b' x1 x2 => ?_⟩
    rw [e2] at x1
    rw [e3] at x2
    rw [gd]
    omega
end Go.Proofs.Ytdcknaoamjlaiaa.Facts
