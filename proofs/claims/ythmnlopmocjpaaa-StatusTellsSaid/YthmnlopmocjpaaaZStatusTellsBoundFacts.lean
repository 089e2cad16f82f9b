import Derived.Test.YthmnlopmocjpaaaZStatusTellsGn3
import Derived.Test.YthmnlopmocjpaaaZStatusTellsRingFacts0
import Derived.Test.YthmnlopmocjpaaaZStatusTellsConfFacts
import Derived.Test.YthmnlopmocjpaaaZStatusTellsGn21
import Derived.Test.YthmnlopmocjpaaaZStatusTellsGn0
import Derived.Test.YthmnlopmocjpaaaZStatusTellsGn2
import Derived.Test.YthmnlopmocjpaaaZStatusTellsGn19
namespace Go.Proofs.Ythmnlopmocjpaaa.Facts
open Go.RowKit Go.Proofs.Ythmnlopmocjpaaa.Gn Go.Proofs.YthmnlopmocjpaaaW.PrintWords Go.Proofs.YthmnlopmocjpaaaW.PrintLast
set_option linter.unusedVariables false
set_option linter.unusedSimpArgs false
/-- The limits of a plain configuration. -/
structure Plain (c0 c1 c2 c3 c4 c5 c6 c7 c8 c9 : Int) (l : List Int) : Prop where
  n : 4 ≤ c0 ∧ c0 ≤ 13
  f : 0 ≤ c1 ∧ c1 ≤ 4
  nf : c0 > 3 * c1
  d : 1 ≤ c2 ∧ c2 ≤ 4
  p : 6 * (c1 + 1) * c2 + 1 ≤ c3 ∧ c3 ≤ 400
  r : 1 ≤ c4 ∧ c4 ≤ 64
  dr : 0 ≤ c5 ∧ c5 ≤ c4 - 1
  o : 0 ≤ c6 ∧ c6 ≤ 30000
  s : 1 ≤ c7 ∧ c7 ≤ 30000
  m : 2 ≤ c8 ∧ c8 ≤ 250
  fr : 1 ≤ c9 ∧ c9 ≤ 100
  len : 1 ≤ l.length ∧ l.length ≤ 32
  own : ∀ n ∈ l, 0 ≤ n ∧ n < c0
  all : ∀ i : Nat, (i : Int) < c0 → (i : Int) ∈ l
theorem Plain.p0 {c0 c1 c2 c3 c4 c5 c6 c7 c8 c9 : Int} {l : List Int} (h : Plain c0 c1 c2 c3 c4 c5 c6 c7 c8 c9 l) : 7 ≤ c3 := by
  have h1 := h.f
  have h2 := h.d
  have a : 1 * 1 ≤ (c1 + 1) * c2 := Int.mul_le_mul (by omega) (by omega) (by omega) (by omega)
  have b : 6 * (c1 + 1) * c2 = 6 * ((c1 + 1) * c2) := Int.mul_assoc _ _ _
  have := h.p
  omega
section
variable {c0 c1 c2 c3 c4 c5 c6 c7 c8 c9 : Int} {l : List Int}
theorem plain_iff : plainE c0 c1 c2 c3 c4 c5 c6 c7 c8 c9 l = 0 ↔ Plain c0 c1 c2 c3 c4 c5 c6 c7 c8 c9 l := by
  unfold plainE
  constructor
  · intro h
    split at h
    · rename_i h1
      split at h
      · rename_i h2
        split at h
        · rename_i h3
          split at h
          · rename_i h4
            simp only [nodesB, Bool.and_eq_true, inB_true, decide_eq_true_eq] at h1
            simp only [numbersB, Bool.and_eq_true, inB_true] at h3
            simp only [tblB, Bool.and_eq_true, decide_eq_true_eq, List.all_eq_true] at h4
            obtain ⟨g1, g2, g3⟩ := h1
            obtain ⟨k3, k4, k5, k6, k7, k8, k9⟩ := h3
            obtain ⟨⟨t1, t2⟩, t3⟩ := h4
            exact ⟨g1, g2, g3, inB_true.1 h2, k3, k4, k5, k6, k7, k8, k9, t1, t2, fun i hi => (tblCnt_mem l i).1 (t3 i (by rw [List.mem_range]; omega))⟩
          · omega
        · omega
      · omega
    · omega
  · intro h
    have h1 : nodesB c0 c1 = true := by simp only [nodesB, Bool.and_eq_true, inB_true, decide_eq_true_eq]; exact ⟨h.n, h.f, h.nf⟩
    have h3 : numbersB c1 c2 c3 c4 c5 c6 c7 c8 c9 = true := by simp only [numbersB, Bool.and_eq_true, inB_true]; exact ⟨h.p, h.r, h.dr, h.o, h.s, h.m, h.fr⟩
    have h4 : tblB c0 l = true := by
      simp only [tblB, Bool.and_eq_true, decide_eq_true_eq, List.all_eq_true]
      exact ⟨⟨h.len, h.own⟩, fun i hi => (tblCnt_mem l i).2 (h.all i (by rw [List.mem_range] at hi; have := h.n; omega))⟩
    rw [if_pos h1, if_pos (inB_true.2 h.d), if_pos h3, if_pos h4]
end
theorem mul_bd {x y a b : Int} (hx : 0 ≤ x ∧ x ≤ a) (hy : 0 ≤ y ∧ y ≤ b) : 0 ≤ x * y ∧ x * y ≤ a * b :=
  ⟨Int.mul_nonneg hx.1 hy.1, Int.mul_le_mul hx.2 hy.2 hy.1 (by omega)⟩
def beginV (c6 c7 i : Int) : Int := c6 + i * c7
def middleV (c6 c7 i : Int) : Int := c6 + i * c7 + c7 / 2
/-- How far clocks may be apart. -/
def guardV (c2 c4 c5 c6 c7 n : Int) : Int := (2 * c5 * middleV c6 c7 (n - 1) + (c4 - c5) - 1) / (c4 - c5) + c4 + (c2 + 1) * c5
def RightP (c2 c3 c4 c5 c6 c7 n : Int) : Prop :=
  c7 > 2 * guardV c2 c4 c5 c6 c7 n ∧ middleV c6 c7 (n - 1) + c2 * c4 + guardV c2 c4 c5 c6 c7 n ≤ (c3 - 1) * (c4 - c5) ∧ c3 * (c4 + c5) < 32768
instance (c2 c3 c4 c5 c6 c7 n : Int) : Decidable (RightP c2 c3 c4 c5 c6 c7 n) := by unfold RightP; exact inferInstance
section
variable {c0 c1 c2 c3 c4 c5 c6 c7 c8 c9 : Int} {l : List Int} (h : Plain c0 c1 c2 c3 c4 c5 c6 c7 c8 c9 l)
include h
theorem begin_bd {i : Int} (hi : 0 ≤ i ∧ i < l.length) : 0 ≤ i * c7 ∧ i * c7 ≤ 31 * 30000 := mul_bd ⟨hi.1, by have := h.len; omega⟩ ⟨by have := h.s; omega, h.s.2⟩
theorem begin_w {i : Int} (hi : 0 ≤ i ∧ i < l.length) : wrap64 (c6 + wrap64 (i * c7)) = beginV c6 c7 i := by
  have := begin_bd h hi
  have := h.o
  rw [w64 (a := i * c7) (by omega), w64 (by omega), beginV]
end
section
variable (c0 c1 c2 c3 c4 c5 c6 c7 c8 c9 : Int) (l : List Int)
end
end Go.Proofs.Ythmnlopmocjpaaa.Facts
namespace Go.Proofs.Ythmnlopmocjpaaa.Facts
open Go.RowKit Go.Proofs.Ythmnlopmocjpaaa.Gn Go.Proofs.YthmnlopmocjpaaaW.PrintWords Go.Proofs.YthmnlopmocjpaaaW.PrintLast
set_option linter.unusedVariables false
set_option linter.unusedSimpArgs false
section
variable (c0 c1 c2 c3 c4 c5 c6 c7 c8 c9 : Int) (l : List Int)
theorem ref_begin_eq (k : Nat) (hk : 700 ≤ k) (i : Int) : r04_Begin.f k c0 c1 c2 c3 c4 c5 c6 c7 c8 c9 l i = some (if plainE c0 c1 c2 c3 c4 c5 c6 c7 c8 c9 l = 0 ∧ 0 ≤ i ∧ i < l.length then beginV c6 c7 i else 0) := by
  unfold r04_Begin.f
  rw [ref_plain_eq _ _ _ _ _ _ _ _ _ _ _ k hk, Option.bind_some]
  by_cases hp : plainE c0 c1 c2 c3 c4 c5 c6 c7 c8 c9 l = 0
  · rw [if_pos hp]
    by_cases h0 : i < 0
    · rw [if_pos h0, if_neg (by omega)]
    · rw [if_neg h0]
      by_cases h1 : i ≥ l.length
      · rw [if_pos h1, if_neg (by omega)]
      · rw [if_neg h1, if_pos ⟨hp, by omega, by omega⟩, begin_w (plain_iff.1 hp) ⟨by omega, by omega⟩]
  · rw [if_neg hp, if_neg (fun x => hp x.1)]
end
end Go.Proofs.Ythmnlopmocjpaaa.Facts
