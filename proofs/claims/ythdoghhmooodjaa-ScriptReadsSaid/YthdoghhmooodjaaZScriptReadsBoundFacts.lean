import Derived.Test.YthdoghhmooodjaaZScriptReadsGn3
import Derived.Test.YthdoghhmooodjaaZScriptReadsGn4
import Derived.Test.YthdoghhmooodjaaZScriptReadsGn5
import Derived.Test.YthdoghhmooodjaaZScriptReadsGn6
import Derived.Test.YthdoghhmooodjaaZScriptReadsGn0
import Derived.Test.YthdoghhmooodjaaZScriptReadsGn1
import Derived.Test.YthdoghhmooodjaaZScriptReadsRingFacts0
namespace Go.Proofs.Ythdoghhmooodjaa.Facts
open Go.RowKit Go.Proofs.Ythdoghhmooodjaa.Gn Go.Proofs.YthdoghhmooodjaaW.PrintWords Go.Proofs.YthdoghhmooodjaaW.PrintLast
set_option linter.unusedVariables false
set_option linter.unusedSimpArgs false
/-- The limits of a plain configuration. -/
structure Plain (c0 c1 c2 c3 c4 c5 c6 c7 c8 c9 : Int) (l : List Int) : Prop where
  n : 4 ≤ c0 ∧ c0 ≤ 13
  f : 0 ≤ c1 ∧ c1 ≤ 4
  nf : c0 > 3 * c1
  d : 1 ≤ c2 ∧ c2 ≤ 4
  p : 6 * (c1 + 1) * c2 + 1 ≤ c3 ∧ c3 ≤ 400
  r : 1 ≤ c4 ∧ c4 ≤ 64
  dr : 0 ≤ c5 ∧ c5 ≤ c4 - 1
  o : 0 ≤ c6 ∧ c6 ≤ 30000
  s : 1 ≤ c7 ∧ c7 ≤ 30000
  m : 2 ≤ c8 ∧ c8 ≤ 250
  fr : 1 ≤ c9 ∧ c9 ≤ 100
  len : 1 ≤ l.length ∧ l.length ≤ 32
  own : ∀ n ∈ l, 0 ≤ n ∧ n < c0
  all : ∀ i : Nat, (i : Int) < c0 → (i : Int) ∈ l
theorem Plain.p0 {c0 c1 c2 c3 c4 c5 c6 c7 c8 c9 : Int} {l : List Int} (h : Plain c0 c1 c2 c3 c4 c5 c6 c7 c8 c9 l) : 7 ≤ c3 := by
  have h1 := h.f
  have h2 := h.d
  have a : 1 * 1 ≤ (c1 + 1) * c2 := Int.mul_le_mul (by omega) (by omega) (by omega) (by omega)
  have b : 6 * (c1 + 1) * c2 = 6 * ((c1 + 1) * c2) := Int.mul_assoc _ _ _
  have := h.p
  omega
section
variable {c0 c1 c2 c3 c4 c5 c6 c7 c8 c9 : Int} {l : List Int}
end
theorem mul_bd {x y a b : Int} (hx : 0 ≤ x ∧ x ≤ a) (hy : 0 ≤ y ∧ y ≤ b) : 0 ≤ x * y ∧ x * y ≤ a * b :=
  ⟨Int.mul_nonneg hx.1 hy.1, Int.mul_le_mul hx.2 hy.2 hy.1 (by omega)⟩
def beginV (c6 c7 i : Int) : Int := c6 + i * c7
def middleV (c6 c7 i : Int) : Int := c6 + i * c7 + c7 / 2
/-- How far clocks may be apart. -/
def guardV (c2 c4 c5 c6 c7 n : Int) : Int := (2 * c5 * middleV c6 c7 (n - 1) + (c4 - c5) - 1) / (c4 - c5) + c4 + (c2 + 1) * c5
def RightP (c2 c3 c4 c5 c6 c7 n : Int) : Prop :=
  c7 > 2 * guardV c2 c4 c5 c6 c7 n ∧ middleV c6 c7 (n - 1) + c2 * c4 + guardV c2 c4 c5 c6 c7 n ≤ (c3 - 1) * (c4 - c5) ∧ c3 * (c4 + c5) < 32768
instance (c2 c3 c4 c5 c6 c7 n : Int) : Decidable (RightP c2 c3 c4 c5 c6 c7 n) := by unfold RightP; exact inferInstance
section
variable {c0 c1 c2 c3 c4 c5 c6 c7 c8 c9 : Int} {l : List Int} (h : Plain c0 c1 c2 c3 c4 c5 c6 c7 c8 c9 l)
include h
theorem begin_bd {i : Int} (hi : 0 ≤ i ∧ i < l.length) : 0 ≤ i * c7 ∧ i * c7 ≤ 31 * 30000 := mul_bd ⟨hi.1, by have := h.len; omega⟩ ⟨by have := h.s; omega, h.s.2⟩
theorem begin_w {i : Int} (hi : 0 ≤ i ∧ i < l.length) : wrap64 (c6 + wrap64 (i * c7)) = beginV c6 c7 i := by
  have := begin_bd h hi
  have := h.o
  rw [w64 (a := i * c7) (by omega), w64 (by omega), beginV]
theorem middle_w {i : Int} (hi : 0 ≤ i ∧ i < l.length) : wrap64 (beginV c6 c7 i + wrap64 (Int.tdiv c7 2)) = middleV c6 c7 i := by
  have := begin_bd h hi
  have := h.o
  have := h.s
  rw [Int.tdiv_eq_ediv_of_nonneg (by omega), w64 (a := c7 / 2) (by omega), beginV, middleV, w64 (by omega)]
theorem last_i : 0 ≤ (l.length : Int) - 1 ∧ (l.length : Int) - 1 < l.length := by have := h.len; omega
theorem len_w : wrap64 ((l.length : Int) - 1) = (l.length : Int) - 1 := by have := h.len; exact w64 (by omega)
end
section
variable (c0 c1 c2 c3 c4 c5 c6 c7 c8 c9 : Int) (l : List Int)
theorem pmiddle_eq (h : Plain c0 c1 c2 c3 c4 c5 c6 c7 c8 c9 l) {i : Int} (hi : 0 ≤ i ∧ i < l.length) : bound_plain_middle.f c0 c1 c2 c3 c4 c5 c6 c7 c8 c9 l i = some (middleV c6 c7 i) := by
  unfold bound_plain_middle.f bound_plain_begin.f
  rw [begin_w h hi, Option.bind_some, middle_w h hi]
theorem last_eq (h : Plain c0 c1 c2 c3 c4 c5 c6 c7 c8 c9 l) : bound_plain_last.f c0 c1 c2 c3 c4 c5 c6 c7 c8 c9 l = some (middleV c6 c7 (l.length - 1)) := by
  unfold bound_plain_last.f
  rw [len_w h, pmiddle_eq _ _ _ _ _ _ _ _ _ _ _ h (last_i h)]
  rfl
end
end Go.Proofs.Ythdoghhmooodjaa.Facts
