import Derived.Test.YtdcknaoamjlaiaaZSlotAgreesSlotFacts
import Derived.Test.YtdcknaoamjlaiaaZSlotAgreesGn62
namespace Go.Proofs.Ytdcknaoamjlaiaa.Facts
open Go.RowKit Go.Proofs.Ytdcknaoamjlaiaa.Gn Go.Proofs.YtdcknaoamjlaiaaW.PrintWords Go.Proofs.YtdcknaoamjlaiaaW.PrintLast
set_option linter.unusedVariables false
/-- All clocks within drift tell the nominal slot at a clear tick. -/
theorem clear_same {c0 c1 c2 c3 c4 c5 c6 c7 c8 c9 : Int} {l : List Int} (h : Plain c0 c1 c2 c3 c4 c5 c6 c7 c8 c9 l) {t S : Int} (ht : 0 ≤ t ∧ t ≤ 2000) (hS : t * (c4 - c5) ≤ S ∧ S ≤ t * (c4 + c5)) (hc : clearV c0 c1 c2 c3 c4 c5 c6 c7 c8 c9 l t = true) : slotV c6 c7 l.length S = slotV c6 c7 l.length (t * c4) := by
  have b := tick_bd _ _ _ _ _ _ _ _ _ _ _ h ht
  have h7 := h.s
  unfold clearV at hc
  rw [Bool.and_eq_true] at hc
  refine slotV_eq (by omega) fun i hi => ?_
  have := bordAll_at _ _ _ _ _ hc.2 i (by omega) (by omega)
  unfold clearsB at this
  rw [Bool.or_eq_true, decide_eq_true_iff, decide_eq_true_iff] at this
  omega
/-- What holds of two clocks, tick by tick, till one comes to a slot's middle. -/
structure Run (s f d m a b t : Int) : Prop where
  a1 : s * t ≤ a
  b1 : s * t ≤ b
  a2 : a ≤ f * t
  b2 : b ≤ f * t
  up : b - a ≤ 2 * (d * t)
  dn : a - b ≤ 2 * (d * t)
  ini : (t = 0 ∧ a = 0 ∧ b = 0) ∨ (s * t - s < m ∧ a ≤ m - 1 + f ∧ b ≤ m - 1 + 2 * (d * t) - 2 * d + f)
theorem Run.step {s f d m a b t u v : Int} (h : Run s f d m a b t) (hs : 0 ≤ s) (hf : s = f - 2 * d) (hd : 0 ≤ d) (ha : a < m) (hu : s ≤ u ∧ u ≤ f) (hv : s ≤ v ∧ v ≤ f) (ht : 0 ≤ t) : Run s f d m (a + u) (b + v) (t + 1) := by
  obtain ⟨a1, b1, a2, b2, up, dn, ini⟩ := h
  have es : s * (t + 1) = s * t + s := by rw [Int.mul_add, Int.mul_one]
  have ef : f * (t + 1) = f * t + f := by rw [Int.mul_add, Int.mul_one]
  have ed : d * (t + 1) = d * t + d := by rw [Int.mul_add, Int.mul_one]
  have dt : 0 ≤ d * t := Int.mul_nonneg hd ht
  refine ⟨?_, ?_, ?_, ?_, ?_, ?_, Or.inr ⟨?_, ?_, ?_⟩⟩ <;> (try rw [es]) <;> (try rw [ef]) <;> (try rw [ed]) <;> omega
end Go.Proofs.Ytdcknaoamjlaiaa.Facts
