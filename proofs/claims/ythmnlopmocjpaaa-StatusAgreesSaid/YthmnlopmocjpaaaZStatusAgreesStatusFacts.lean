import Derived.Test.YthmnlopmocjpaaaZStatusAgreesGn0
import Derived.Test.YthmnlopmocjpaaaZStatusAgreesGn4
import Derived.Test.YthmnlopmocjpaaaZStatusAgreesGn9
import Derived.Test.YthmnlopmocjpaaaZStatusAgreesGn10
import Derived.Test.YthmnlopmocjpaaaZStatusAgreesGn11
import Derived.Test.YthmnlopmocjpaaaZStatusAgreesGn15
import Derived.Test.YthmnlopmocjpaaaZStatusAgreesGn16
import Derived.Test.YthmnlopmocjpaaaZStatusAgreesGn17
import Derived.Test.YthmnlopmocjpaaaZStatusAgreesGn2
import Derived.Test.YthmnlopmocjpaaaZStatusAgreesGn19
import Derived.Test.YthmnlopmocjpaaaZStatusAgreesGn22
import Derived.Test.YthmnlopmocjpaaaZStatusAgreesGn23
import Derived.Test.YthmnlopmocjpaaaZStatusAgreesRingFacts0
import Derived.Test.YthmnlopmocjpaaaZStatusAgreesConfFacts
import Derived.Test.YthmnlopmocjpaaaZStatusAgreesBoundFacts
import Derived.Test.YthmnlopmocjpaaaZStatusAgreesBoundRef
import Derived.Test.YthmnlopmocjpaaaZStatusAgreesSchedFacts
import Derived.Test.YthmnlopmocjpaaaZStatusAgreesSlotRing
import Derived.Test.YthmnlopmocjpaaaZStatusAgreesSlotFacts
import Derived.Test.YthmnlopmocjpaaaZStatusAgreesGateMarks
namespace Go.Proofs.Ythmnlopmocjpaaa.Facts
open Go.RowKit Go.Proofs.Ythmnlopmocjpaaa.Gn Go.Proofs.YthmnlopmocjpaaaW.PrintWords Go.Proofs.YthmnlopmocjpaaaW.PrintLast
open FactsM (markV cl gmark_eq)
set_option linter.unusedVariables false
theorem ssync_eq (m : S30) : gate_Sync.f m.f0 m.f1 m.f2 m.f3 m.f4 m.f5 m.f6 m.f7 m.f8 m.f9 m.f10 m.f11 m.f12 m.f13 m.f14 m.f15 m.f16 m.f17 m.f18.f0 m.f18.f1 m.f18.f2 m.f18.f3 m.f18.f4 m.f18.f5 = some (decide (m.f8 ≥ 2)) := rfl
def slotS (c : S24) (m : S30) : Int := if plainE c.f0 c.f1 c.f2 c.f3 c.f4 c.f5 c.f6 c.f7 c.f8 c.f9 c.f10 = 0 then (if m.f8 ≥ 2 then nowV c.f0 c.f1 c.f2 c.f3 c.f4 c.f5 c.f6 c.f7 c.f8 c.f9 c.f10 ((m.f0 - m.f1) % 65536) else -1) else -1
theorem sslot_eq (c : S24) (m : S30) (k : Nat) (hk : 9 ≤ k) : status_Slot.f k c.f0 c.f1 c.f2 c.f3 c.f4 c.f5 c.f6 c.f7 c.f8 c.f9 c.f10 m.f0 m.f1 m.f2 m.f3 m.f4 m.f5 m.f6 m.f7 m.f8 m.f9 m.f10 m.f11 m.f12 m.f13 m.f14 m.f15 m.f16 m.f17 m.f18.f0 m.f18.f1 m.f18.f2 m.f18.f3 m.f18.f4 m.f18.f5 = some (slotS c m) := by
  unfold status_Slot.f slotS
  rw [plain_eq k (by omega), Option.bind_some, ssync_eq, Option.bind_some]
  by_cases hp : plainE c.f0 c.f1 c.f2 c.f3 c.f4 c.f5 c.f6 c.f7 c.f8 c.f9 c.f10 = 0
  · rw [if_pos hp, if_pos hp]
    by_cases h : m.f8 ≥ 2
    · rw [if_pos (decide_eq_true h), if_pos h, now_eq _ _ _ _ _ _ _ _ _ _ _ _ _ k hk]
      rfl
    · rw [if_neg (by simpa using h), if_neg h]
  · rw [if_neg hp, if_neg hp]
abbrev RS := Bool × Bool × Int × Int × ByteArray × Int × List S50
def repS (c : S24) (m : S30) (p : Bool) (s : Int) (l : List S50) : RS :=
  if plainE c.f0 c.f1 c.f2 c.f3 c.f4 c.f5 c.f6 c.f7 c.f8 c.f9 c.f10 = 0 then (p, decide (m.f8 ≥ 2), m.f7, slotS c m, markV m.f9 (cl c.f0) [], s, l) else (false, false, 0, -1, (⟨#[]⟩ : ByteArray), 0, [])
theorem report_eq (c : S24) (m : S30) (p : Bool) (s : Int) (l : List S50) (hl : l.length ≤ 1000) (k : Nat) (hk : 80 ≤ k) : status_Report.f k c.f0 c.f1 c.f2 c.f3 c.f4 c.f5 c.f6 c.f7 c.f8 c.f9 c.f10 m.f0 m.f1 m.f2 m.f3 m.f4 m.f5 m.f6 m.f7 m.f8 m.f9 m.f10 m.f11 m.f12 m.f13 m.f14 m.f15 m.f16 m.f17 m.f18.f0 m.f18.f1 m.f18.f2 m.f18.f3 m.f18.f4 m.f18.f5 p s l = some (repS c m p s l) := by
  unfold status_Report.f repS
  rw [plain_eq k (by omega), Option.bind_some]
  by_cases hp : plainE c.f0 c.f1 c.f2 c.f3 c.f4 c.f5 c.f6 c.f7 c.f8 c.f9 c.f10 = 0
  · rw [if_pos hp, if_pos hp, ssync_eq, Option.bind_some, sslot_eq c m k (by omega), Option.bind_some]
    unfold roster_Mark.f
    rw [gmark_eq _ _ _ (by simp) k (by simp; omega), Option.bind_some, Option.bind_some, if_pos (by omega), if_pos (by omega), if_pos (by rw [List.length_replicate]; omega)]
  · rw [if_neg hp, if_neg hp]
theorem repS_slot (c : S24) (m : S30) (p : Bool) (s : Int) (l : List S50) : (repS c m p s l).2.2.2.1 = slotS c m := by
  unfold repS slotS
  split
  · rfl
  · rfl
theorem known27 (k : Nat) (hk : 300 ≤ k) : l27_known.f k = some true := leo_up l27_known.mono hk (by decide +kernel)
end Go.Proofs.Ythmnlopmocjpaaa.Facts
namespace Go.Proofs.Ythmnlopmocjpaaa.Facts
open Go.RowKit Go.Proofs.Ythmnlopmocjpaaa.Gn Go.Proofs.YthmnlopmocjpaaaW.PrintWords Go.Proofs.YthmnlopmocjpaaaW.PrintLast
set_option linter.unusedVariables false
/-- All clocks within drift tell the nominal slot at a clear tick. -/
theorem clear_same {c0 c1 c2 c3 c4 c5 c6 c7 c8 c9 : Int} {l : List Int} (h : Plain c0 c1 c2 c3 c4 c5 c6 c7 c8 c9 l) {t S : Int} (ht : 0 ≤ t ∧ t ≤ 2000) (hS : t * (c4 - c5) ≤ S ∧ S ≤ t * (c4 + c5)) (hc : clearV c0 c1 c2 c3 c4 c5 c6 c7 c8 c9 l t = true) : slotV c6 c7 l.length S = slotV c6 c7 l.length (t * c4) := by
  have b := tick_bd _ _ _ _ _ _ _ _ _ _ _ h ht
  have h7 := h.s
  unfold clearV at hc
  rw [Bool.and_eq_true] at hc
  refine slotV_eq (by omega) fun i hi => ?_
  have := bordAll_at _ _ _ _ _ hc.2 i (by omega) (by omega)
  unfold clearsB at this
  rw [Bool.or_eq_true, decide_eq_true_iff, decide_eq_true_iff] at this
  omega
/-- What holds of two clocks, tick by tick, till one comes to a slot's middle. -/
structure Run (s f d m a b t : Int) : Prop where
  a1 : s * t ≤ a
  b1 : s * t ≤ b
  a2 : a ≤ f * t
  b2 : b ≤ f * t
  up : b - a ≤ 2 * (d * t)
  dn : a - b ≤ 2 * (d * t)
  ini : (t = 0 ∧ a = 0 ∧ b = 0) ∨ (s * t - s < m ∧ a ≤ m - 1 + f ∧ b ≤ m - 1 + 2 * (d * t) - 2 * d + f)
theorem Run.step {s f d m a b t u v : Int} (h : Run s f d m a b t) (hs : 0 ≤ s) (hf : s = f - 2 * d) (hd : 0 ≤ d) (ha : a < m) (hu : s ≤ u ∧ u ≤ f) (hv : s ≤ v ∧ v ≤ f) (ht : 0 ≤ t) : Run s f d m (a + u) (b + v) (t + 1) := by
  obtain ⟨a1, b1, a2, b2, up, dn, ini⟩ := h
  have es : s * (t + 1) = s * t + s := by rw [Int.mul_add, Int.mul_one]
  have ef : f * (t + 1) = f * t + f := by rw [Int.mul_add, Int.mul_one]
  have ed : d * (t + 1) = d * t + d := by rw [Int.mul_add, Int.mul_one]
  have dt : 0 ≤ d * t := Int.mul_nonneg hd ht
  refine ⟨?_, ?_, ?_, ?_, ?_, ?_, Or.inr ⟨?_, ?_, ?_⟩⟩ <;> (try rw [es]) <;> (try rw [ef]) <;> (try rw [ed]) <;> omega
end Go.Proofs.Ythmnlopmocjpaaa.Facts
