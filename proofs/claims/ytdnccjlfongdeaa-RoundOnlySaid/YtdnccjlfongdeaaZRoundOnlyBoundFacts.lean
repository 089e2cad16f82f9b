import Derived.Test.YtdnccjlfongdeaaZRoundOnlyGn4
import Derived.Test.YtdnccjlfongdeaaZRoundOnlyRingFacts0
import Derived.Test.YtdnccjlfongdeaaZRoundOnlyConfFacts
namespace Go.Proofs.Ytdnccjlfongdeaa.Facts
open Go.RowKit Go.Proofs.Ytdnccjlfongdeaa.Gn Go.Proofs.YtdnccjlfongdeaaW.PrintWords Go.Proofs.YtdnccjlfongdeaaW.PrintLast
set_option linter.unusedVariables false
set_option linter.unusedSimpArgs false
/-- The limits of a plain configuration. -/
structure Plain (c0 c1 c2 c3 c4 c5 c6 c7 c8 c9 : Int) (l : List Int) : Prop where
  n : 4 ≤ c0 ∧ c0 ≤ 13
  f : 0 ≤ c1 ∧ c1 ≤ 4
  nf : c0 > 3 * c1
  d : 1 ≤ c2 ∧ c2 ≤ 4
  p : 6 * (c1 + 1) * c2 + 1 ≤ c3 ∧ c3 ≤ 400
  r : 1 ≤ c4 ∧ c4 ≤ 64
  dr : 0 ≤ c5 ∧ c5 ≤ c4 - 1
  o : 0 ≤ c6 ∧ c6 ≤ 30000
  s : 1 ≤ c7 ∧ c7 ≤ 30000
  m : 2 ≤ c8 ∧ c8 ≤ 250
  fr : 1 ≤ c9 ∧ c9 ≤ 100
  len : 1 ≤ l.length ∧ l.length ≤ 32
  own : ∀ n ∈ l, 0 ≤ n ∧ n < c0
  all : ∀ i : Nat, (i : Int) < c0 → (i : Int) ∈ l
theorem Plain.p0 {c0 c1 c2 c3 c4 c5 c6 c7 c8 c9 : Int} {l : List Int} (h : Plain c0 c1 c2 c3 c4 c5 c6 c7 c8 c9 l) : 7 ≤ c3 := by
  have h1 := h.f
  have h2 := h.d
  have a : 1 * 1 ≤ (c1 + 1) * c2 := Int.mul_le_mul (by omega) (by omega) (by omega) (by omega)
  have b : 6 * (c1 + 1) * c2 = 6 * ((c1 + 1) * c2) := Int.mul_assoc _ _ _
  have := h.p
  omega
section
variable {c0 c1 c2 c3 c4 c5 c6 c7 c8 c9 : Int} {l : List Int}
theorem plain_iff : plainE c0 c1 c2 c3 c4 c5 c6 c7 c8 c9 l = 0 ↔ Plain c0 c1 c2 c3 c4 c5 c6 c7 c8 c9 l := by
  unfold plainE
  constructor
  · intro h
    split at h
    · rename_i h1
      split at h
      · rename_i h2
        split at h
        · rename_i h3
          split at h
          · rename_i h4
            simp only [nodesB, Bool.and_eq_true, inB_true, decide_eq_true_eq] at h1
            simp only [numbersB, Bool.and_eq_true, inB_true] at h3
            simp only [tblB, Bool.and_eq_true, decide_eq_true_eq, List.all_eq_true] at h4
            obtain ⟨g1, g2, g3⟩ := h1
            obtain ⟨k3, k4, k5, k6, k7, k8, k9⟩ := h3
            obtain ⟨⟨t1, t2⟩, t3⟩ := h4
            exact ⟨g1, g2, g3, inB_true.1 h2, k3, k4, k5, k6, k7, k8, k9, t1, t2, fun i hi => (tblCnt_mem l i).1 (t3 i (by rw [List.mem_range]; omega))⟩
          · omega
        · omega
      · omega
    · omega
  · intro h
    have h1 : nodesB c0 c1 = true := by simp only [nodesB, Bool.and_eq_true, inB_true, decide_eq_true_eq]; exact ⟨h.n, h.f, h.nf⟩
    have h3 : numbersB c1 c2 c3 c4 c5 c6 c7 c8 c9 = true := by simp only [numbersB, Bool.and_eq_true, inB_true]; exact ⟨h.p, h.r, h.dr, h.o, h.s, h.m, h.fr⟩
    have h4 : tblB c0 l = true := by
      simp only [tblB, Bool.and_eq_true, decide_eq_true_eq, List.all_eq_true]
      exact ⟨⟨h.len, h.own⟩, fun i hi => (tblCnt_mem l i).2 (h.all i (by rw [List.mem_range] at hi; have := h.n; omega))⟩
    rw [if_pos h1, if_pos (inB_true.2 h.d), if_pos h3, if_pos h4]
end
def middleV (c6 c7 i : Int) : Int := c6 + i * c7 + c7 / 2
/-- How far clocks may be apart. -/
def guardV (c2 c4 c5 c6 c7 n : Int) : Int := (2 * c5 * middleV c6 c7 (n - 1) + (c4 - c5) - 1) / (c4 - c5) + c4 + (c2 + 1) * c5
def RightP (c2 c3 c4 c5 c6 c7 n : Int) : Prop :=
  c7 > 2 * guardV c2 c4 c5 c6 c7 n ∧ middleV c6 c7 (n - 1) + c2 * c4 + guardV c2 c4 c5 c6 c7 n ≤ (c3 - 1) * (c4 - c5) ∧ c3 * (c4 + c5) < 32768
instance (c2 c3 c4 c5 c6 c7 n : Int) : Decidable (RightP c2 c3 c4 c5 c6 c7 n) := by unfold RightP; exact inferInstance
section
variable {c0 c1 c2 c3 c4 c5 c6 c7 c8 c9 : Int} {l : List Int} (h : Plain c0 c1 c2 c3 c4 c5 c6 c7 c8 c9 l)
include h
end
section
variable (c0 c1 c2 c3 c4 c5 c6 c7 c8 c9 : Int) (l : List Int)
end
end Go.Proofs.Ytdnccjlfongdeaa.Facts
