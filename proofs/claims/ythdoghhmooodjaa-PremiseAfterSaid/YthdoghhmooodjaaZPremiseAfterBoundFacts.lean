import Derived.Test.YthdoghhmooodjaaZPremiseAfterGn3
import Derived.Test.YthdoghhmooodjaaZPremiseAfterGn4
import Derived.Test.YthdoghhmooodjaaZPremiseAfterGn5
import Derived.Test.YthdoghhmooodjaaZPremiseAfterGn6
import Derived.Test.YthdoghhmooodjaaZPremiseAfterGn46
import Derived.Test.YthdoghhmooodjaaZPremiseAfterGn49
import Derived.Test.YthdoghhmooodjaaZPremiseAfterRingFacts0
import Derived.Test.YthdoghhmooodjaaZPremiseAfterGn26
import Derived.Test.YthdoghhmooodjaaZPremiseAfterGn27
import Derived.Test.YthdoghhmooodjaaZPremiseAfterGn0
import Derived.Test.YthdoghhmooodjaaZPremiseAfterGn1
import Derived.Test.YthdoghhmooodjaaZPremiseAfterGn25
namespace Go.Proofs.Ythdoghhmooodjaa.Facts
open Go.RowKit Go.Proofs.Ythdoghhmooodjaa.Gn Go.Proofs.YthdoghhmooodjaaW.PrintWords Go.Proofs.YthdoghhmooodjaaW.PrintLast
set_option linter.unusedVariables false
set_option linter.unusedSimpArgs false
/-- The limits of a plain configuration. -/
structure Plain (c0 c1 c2 c3 c4 c5 c6 c7 c8 c9 : Int) (l : List Int) : Prop where
  n : 4 ≤ c0 ∧ c0 ≤ 13
  f : 0 ≤ c1 ∧ c1 ≤ 4
  nf : c0 > 3 * c1
  d : 1 ≤ c2 ∧ c2 ≤ 4
  p : 6 * (c1 + 1) * c2 + 1 ≤ c3 ∧ c3 ≤ 400
  r : 1 ≤ c4 ∧ c4 ≤ 64
  dr : 0 ≤ c5 ∧ c5 ≤ c4 - 1
  o : 0 ≤ c6 ∧ c6 ≤ 30000
  s : 1 ≤ c7 ∧ c7 ≤ 30000
  m : 2 ≤ c8 ∧ c8 ≤ 250
  fr : 1 ≤ c9 ∧ c9 ≤ 100
  len : 1 ≤ l.length ∧ l.length ≤ 32
  own : ∀ n ∈ l, 0 ≤ n ∧ n < c0
  all : ∀ i : Nat, (i : Int) < c0 → (i : Int) ∈ l
theorem Plain.p0 {c0 c1 c2 c3 c4 c5 c6 c7 c8 c9 : Int} {l : List Int} (h : Plain c0 c1 c2 c3 c4 c5 c6 c7 c8 c9 l) : 7 ≤ c3 := by
  have h1 := h.f
  have h2 := h.d
  have a : 1 * 1 ≤ (c1 + 1) * c2 := Int.mul_le_mul (by omega) (by omega) (by omega) (by omega)
  have b : 6 * (c1 + 1) * c2 = 6 * ((c1 + 1) * c2) := Int.mul_assoc _ _ _
  have := h.p
  omega
section
variable {c0 c1 c2 c3 c4 c5 c6 c7 c8 c9 : Int} {l : List Int}
theorem plain_iff : plainE c0 c1 c2 c3 c4 c5 c6 c7 c8 c9 l = 0 ↔ Plain c0 c1 c2 c3 c4 c5 c6 c7 c8 c9 l := by
  unfold plainE
  constructor
  · intro h
    split at h
    · rename_i h1
      split at h
      · rename_i h2
        split at h
        · rename_i h3
          split at h
          · rename_i h4
            simp only [nodesB, Bool.and_eq_true, inB_true, decide_eq_true_eq] at h1
            simp only [numbersB, Bool.and_eq_true, inB_true] at h3
            simp only [tblB, Bool.and_eq_true, decide_eq_true_eq, List.all_eq_true] at h4
            obtain ⟨g1, g2, g3⟩ := h1
            obtain ⟨k3, k4, k5, k6, k7, k8, k9⟩ := h3
            obtain ⟨⟨t1, t2⟩, t3⟩ := h4
            exact ⟨g1, g2, g3, inB_true.1 h2, k3, k4, k5, k6, k7, k8, k9, t1, t2, fun i hi => (tblCnt_mem l i).1 (t3 i (by rw [List.mem_range]; omega))⟩
          · omega
        · omega
      · omega
    · omega
  · intro h
    have h1 : nodesB c0 c1 = true := by simp only [nodesB, Bool.and_eq_true, inB_true, decide_eq_true_eq]; exact ⟨h.n, h.f, h.nf⟩
    have h3 : numbersB c1 c2 c3 c4 c5 c6 c7 c8 c9 = true := by simp only [numbersB, Bool.and_eq_true, inB_true]; exact ⟨h.p, h.r, h.dr, h.o, h.s, h.m, h.fr⟩
    have h4 : tblB c0 l = true := by
      simp only [tblB, Bool.and_eq_true, decide_eq_true_eq, List.all_eq_true]
      exact ⟨⟨h.len, h.own⟩, fun i hi => (tblCnt_mem l i).2 (h.all i (by rw [List.mem_range] at hi; have := h.n; omega))⟩
    rw [if_pos h1, if_pos (inB_true.2 h.d), if_pos h3, if_pos h4]
end
theorem mul_bd {x y a b : Int} (hx : 0 ≤ x ∧ x ≤ a) (hy : 0 ≤ y ∧ y ≤ b) : 0 ≤ x * y ∧ x * y ≤ a * b :=
  ⟨Int.mul_nonneg hx.1 hy.1, Int.mul_le_mul hx.2 hy.2 hy.1 (by omega)⟩
theorem ceil_eq {a b : Int} (ha : 0 ≤ a) (hb : 1 ≤ b) : (a + b - 1) / b = a / b + if a % b > 0 then 1 else 0 := by
  have h := Int.mul_ediv_add_emod a b
  have h1 := Int.emod_nonneg a (show b ≠ 0 by omega)
  have h2 := Int.emod_lt_of_pos a (show 0 < b by omega)
  split
  · have e : a + b - 1 = (a % b - 1) + (a / b + 1) * b := by
      rw [Int.add_mul, Int.mul_comm (a / b) b]
      omega
    rw [e, Int.add_mul_ediv_right _ _ (by omega), Int.ediv_eq_zero_of_lt (by omega) (by omega)]
    omega
  · have e : a + b - 1 = (b - 1) + (a / b) * b := by
      rw [Int.mul_comm (a / b) b]
      omega
    rw [e, Int.add_mul_ediv_right _ _ (by omega), Int.ediv_eq_zero_of_lt (by omega) (by omega)]
    omega
def beginV (c6 c7 i : Int) : Int := c6 + i * c7
def middleV (c6 c7 i : Int) : Int := c6 + i * c7 + c7 / 2
/-- How far clocks may be apart. -/
def guardV (c2 c4 c5 c6 c7 n : Int) : Int := (2 * c5 * middleV c6 c7 (n - 1) + (c4 - c5) - 1) / (c4 - c5) + c4 + (c2 + 1) * c5
def RightP (c2 c3 c4 c5 c6 c7 n : Int) : Prop :=
  c7 > 2 * guardV c2 c4 c5 c6 c7 n ∧ middleV c6 c7 (n - 1) + c2 * c4 + guardV c2 c4 c5 c6 c7 n ≤ (c3 - 1) * (c4 - c5) ∧ c3 * (c4 + c5) < 32768
instance (c2 c3 c4 c5 c6 c7 n : Int) : Decidable (RightP c2 c3 c4 c5 c6 c7 n) := by unfold RightP; exact inferInstance
def rightE (c0 c1 c2 c3 c4 c5 c6 c7 c8 c9 : Int) (l : List Int) : Int :=
  if plainE c0 c1 c2 c3 c4 c5 c6 c7 c8 c9 l = 0 then (if RightP c2 c3 c4 c5 c6 c7 l.length then 0 else 8) else plainE c0 c1 c2 c3 c4 c5 c6 c7 c8 c9 l
section
variable {c0 c1 c2 c3 c4 c5 c6 c7 c8 c9 : Int} {l : List Int} (h : Plain c0 c1 c2 c3 c4 c5 c6 c7 c8 c9 l)
include h
theorem begin_bd {i : Int} (hi : 0 ≤ i ∧ i < l.length) : 0 ≤ i * c7 ∧ i * c7 ≤ 31 * 30000 := mul_bd ⟨hi.1, by have := h.len; omega⟩ ⟨by have := h.s; omega, h.s.2⟩
theorem middle_bd {i : Int} (hi : 0 ≤ i ∧ i < l.length) : 0 ≤ middleV c6 c7 i ∧ middleV c6 c7 i ≤ 975000 := by
  have := begin_bd h hi
  have := h.o
  have := h.s
  unfold middleV
  omega
theorem begin_w {i : Int} (hi : 0 ≤ i ∧ i < l.length) : wrap64 (c6 + wrap64 (i * c7)) = beginV c6 c7 i := by
  have := begin_bd h hi
  have := h.o
  rw [w64 (a := i * c7) (by omega), w64 (by omega), beginV]
theorem middle_w {i : Int} (hi : 0 ≤ i ∧ i < l.length) : wrap64 (beginV c6 c7 i + wrap64 (Int.tdiv c7 2)) = middleV c6 c7 i := by
  have := begin_bd h hi
  have := h.o
  have := h.s
  rw [Int.tdiv_eq_ediv_of_nonneg (by omega), w64 (a := c7 / 2) (by omega), beginV, middleV, w64 (by omega)]
theorem last_i : 0 ≤ (l.length : Int) - 1 ∧ (l.length : Int) - 1 < l.length := by have := h.len; omega
theorem len_w : wrap64 ((l.length : Int) - 1) = (l.length : Int) - 1 := by have := h.len; exact w64 (by omega)
theorem apart_bd : 0 ≤ 2 * c5 * middleV c6 c7 (l.length - 1) ∧ 2 * c5 * middleV c6 c7 (l.length - 1) ≤ 126 * 975000 := by
  have := h.r
  have := h.dr
  exact mul_bd ⟨by omega, by omega⟩ (middle_bd h (last_i h))
theorem guard_bd : 0 ≤ guardV c2 c4 c5 c6 c7 l.length ∧ guardV c2 c4 c5 c6 c7 l.length ≤ 126 * 975000 + 1000 := by
  have a := apart_bd h
  have := h.r
  have := h.dr
  have := h.d
  have b := mul_bd (x := c2 + 1) (y := c5) (a := 5) (b := 63) ⟨by omega, by omega⟩ ⟨by omega, by omega⟩
  have q : 0 ≤ (2 * c5 * middleV c6 c7 (l.length - 1) + (c4 - c5) - 1) / (c4 - c5) := Int.ediv_nonneg (by omega) (by omega)
  have q2 : (2 * c5 * middleV c6 c7 (l.length - 1) + (c4 - c5) - 1) / (c4 - c5) ≤ 2 * c5 * middleV c6 c7 (l.length - 1) + (c4 - c5) - 1 := Int.ediv_le_self _ (by omega)
  unfold guardV
  omega
theorem slow_w : wrap64 (c4 - c5) = c4 - c5 := by have := h.r; have := h.dr; exact w64 (by omega)
theorem fast_w : wrap64 (c4 + c5) = c4 + c5 := by have := h.r; have := h.dr; exact w64 (by omega)
theorem guard_tail (x : Int) (hx : 0 ≤ x ∧ x ≤ 126 * 975000 + 100) : wrap64 (wrap64 (wrap64 x + c4) + wrap64 (wrap64 (c2 + 1) * c5)) = x + c4 + (c2 + 1) * c5 := by
  have := h.r
  have := h.dr
  have := h.d
  have b := mul_bd (x := c2 + 1) (y := c5) (a := 5) (b := 63) ⟨by omega, by omega⟩ ⟨by omega, by omega⟩
  rw [w64 (a := x) (by omega), w64 (a := c2 + 1) (by omega), w64 (a := (c2 + 1) * c5) (by omega), w64 (a := x + c4) (by omega), w64 (by omega)]
end
section
variable (c0 c1 c2 c3 c4 c5 c6 c7 c8 c9 : Int) (l : List Int)
theorem of_eq (k : Nat) (hk : 8 ≤ k) : bound_of.f k c0 c1 c2 c3 c4 c5 c6 c7 c8 c9 l = some (plainE c0 c1 c2 c3 c4 c5 c6 c7 c8 c9 l == 0) := by
  unfold bound_of.f
  rw [plain_eq k hk]
  rfl
theorem pmiddle_eq (h : Plain c0 c1 c2 c3 c4 c5 c6 c7 c8 c9 l) {i : Int} (hi : 0 ≤ i ∧ i < l.length) : bound_plain_middle.f c0 c1 c2 c3 c4 c5 c6 c7 c8 c9 l i = some (middleV c6 c7 i) := by
  unfold bound_plain_middle.f bound_plain_begin.f
  rw [begin_w h hi, Option.bind_some, middle_w h hi]
theorem last_eq (h : Plain c0 c1 c2 c3 c4 c5 c6 c7 c8 c9 l) : bound_plain_last.f c0 c1 c2 c3 c4 c5 c6 c7 c8 c9 l = some (middleV c6 c7 (l.length - 1)) := by
  unfold bound_plain_last.f
  rw [len_w h, pmiddle_eq _ _ _ _ _ _ _ _ _ _ _ h (last_i h)]
  rfl
theorem pguard_eq (h : Plain c0 c1 c2 c3 c4 c5 c6 c7 c8 c9 l) : bound_plain_guard.f c0 c1 c2 c3 c4 c5 c6 c7 c8 c9 l = some (guardV c2 c4 c5 c6 c7 l.length) := by
  have a := apart_bd h
  have hr := h.r
  have hd := h.dr
  have q : 0 ≤ (2 * c5 * middleV c6 c7 (l.length - 1) + (c4 - c5) - 1) / (c4 - c5) := Int.ediv_nonneg (by omega) (by omega)
  have q2 : (2 * c5 * middleV c6 c7 (l.length - 1) + (c4 - c5) - 1) / (c4 - c5) ≤ 2 * c5 * middleV c6 c7 (l.length - 1) + (c4 - c5) - 1 := Int.ediv_le_self _ (by omega)
  unfold bound_plain_guard.f bound_plain_slowest.f
  rw [last_eq _ _ _ _ _ _ _ _ _ _ _ h, slow_w h]
  simp only [Option.bind_some]
  rw [if_neg (by omega), w64 (a := 2 * c5) (by omega), w64 (a := 2 * c5 * middleV c6 c7 (l.length - 1)) (by omega), w64 (a := 2 * c5 * middleV c6 c7 (l.length - 1) + (c4 - c5)) (by omega), w64 (a := 2 * c5 * middleV c6 c7 (l.length - 1) + (c4 - c5) - 1) (by omega), Int.tdiv_eq_ediv_of_nonneg (by omega), guard_tail h _ ⟨q, by omega⟩]
  rfl
theorem right_eq (k : Nat) (hk : 8 ≤ k) : bound_Right.f k c0 c1 c2 c3 c4 c5 c6 c7 c8 c9 l = some (rightE c0 c1 c2 c3 c4 c5 c6 c7 c8 c9 l) := by
  unfold bound_Right.f rightE
  rw [of_eq _ _ _ _ _ _ _ _ _ _ _ k hk, Option.bind_some]
  by_cases hp : plainE c0 c1 c2 c3 c4 c5 c6 c7 c8 c9 l = 0
  · have h := plain_iff.1 hp
    have gb := guard_bd h
    have mb := middle_bd h (last_i h)
    have hr := h.r
    have hd := h.dr
    have hdd := h.d
    have hpp := h.p
    have hp0 := h.p0
    have b1 := mul_bd (x := c2) (y := c4) (a := 4) (b := 64) ⟨by omega, by omega⟩ ⟨by omega, by omega⟩
    have b2 := mul_bd (x := c3 - 1) (y := c4 - c5) (a := 400) (b := 64) ⟨by omega, by omega⟩ ⟨by omega, by omega⟩
    have b3 := mul_bd (x := c3) (y := c4 + c5) (a := 400) (b := 128) ⟨by omega, by omega⟩ ⟨by omega, by omega⟩
    rw [if_pos (by simp [hp]), pguard_eq _ _ _ _ _ _ _ _ _ _ _ h, Option.bind_some, if_pos hp]
    unfold bound_sound_parts.f bound_sound_ends.f bound_sound_turns.f bound_plain_slowest.f bound_plain_fastest.f
    rw [last_eq _ _ _ _ _ _ _ _ _ _ _ h, slow_w h, fast_w h]
    simp only [Option.bind_some]
    rw [w64 (a := 2 * guardV c2 c4 c5 c6 c7 l.length) (by omega), w64 (a := c2 * c4) (by omega), w64 (a := middleV c6 c7 (l.length - 1) + c2 * c4) (by omega), w64 (a := middleV c6 c7 (l.length - 1) + c2 * c4 + guardV c2 c4 c5 c6 c7 l.length) (by omega), w64 (a := c3 - 1) (by omega), w64 (a := (c3 - 1) * (c4 - c5)) (by omega), w64 (a := c3 * (c4 + c5)) (by omega)]
    by_cases g1 : c7 > 2 * guardV c2 c4 c5 c6 c7 l.length
    · rw [if_pos (decide_eq_true g1)]
      by_cases g2 : middleV c6 c7 (l.length - 1) + c2 * c4 + guardV c2 c4 c5 c6 c7 l.length ≤ (c3 - 1) * (c4 - c5)
      · rw [if_pos (decide_eq_true g2)]
        by_cases g3 : c3 * (c4 + c5) < 32768
        · rw [if_pos (decide_eq_true g3), if_pos ⟨g1, g2, g3⟩]
        · rw [if_neg (by simpa using g3), if_neg (fun x => g3 x.2.2)]
      · rw [if_neg (by simpa using g2), if_neg (fun x => g2 x.2.1)]
    · rw [if_neg (by simpa using g1), if_neg (fun x => g1 x.1)]
  · rw [if_neg (by simp [hp]), plain_eq k hk, if_neg hp]
    rfl
theorem rounds_eq (k : Nat) (hk : 8 ≤ k) : conf_Rounds.f k c0 c1 c2 c3 c4 c5 c6 c7 c8 c9 l = some (if plainE c0 c1 c2 c3 c4 c5 c6 c7 c8 c9 l = 0 then 3 * (c1 + 1) else 0) := by
  unfold conf_Rounds.f
  rw [plain_eq k hk, Option.bind_some]
  by_cases hp : plainE c0 c1 c2 c3 c4 c5 c6 c7 c8 c9 l = 0
  · have := (plain_iff.1 hp).f
    rw [if_pos hp, if_pos hp, w64 (a := c1 + 1) (by omega), w64 (by omega)]
  · rw [if_neg hp, if_neg hp]
def lengthV (c1 c2 : Int) : Int := 3 * (c1 + 1) * c2
theorem length_bd (h : Plain c0 c1 c2 c3 c4 c5 c6 c7 c8 c9 l) : 0 ≤ lengthV c1 c2 ∧ lengthV c1 c2 ≤ 60 := by
  have := h.f
  have := h.d
  exact mul_bd (a := 15) (b := 4) ⟨by omega, by omega⟩ ⟨by omega, by omega⟩
theorem length_eq (k : Nat) (hk : 8 ≤ k) : conf_Length.f k c0 c1 c2 c3 c4 c5 c6 c7 c8 c9 l = some (if plainE c0 c1 c2 c3 c4 c5 c6 c7 c8 c9 l = 0 then lengthV c1 c2 else 0) := by
  unfold conf_Length.f
  rw [rounds_eq _ _ _ _ _ _ _ _ _ _ _ k hk, Option.bind_some]
  by_cases hp : plainE c0 c1 c2 c3 c4 c5 c6 c7 c8 c9 l = 0
  · have h := plain_iff.1 hp
    have := h.d
    have := length_bd _ _ _ _ _ _ _ _ _ _ _ h
    rw [if_pos hp, if_pos hp, show mx c2 0 = c2 from by unfold mx; rw [if_neg (by omega)]]
    rw [show 3 * (c1 + 1) * c2 = lengthV c1 c2 from rfl, w64 (by omega)]
  · rw [if_neg hp, if_neg hp, Int.zero_mul]
    exact congrArg some (w64 (by omega))
def settleV (c1 c2 c3 : Int) : Int := 1 + 4 * lengthV c1 c2 + 2 * c3
theorem settle_eq (k : Nat) (hk : 8 ≤ k) : bound_Settle.f k c0 c1 c2 c3 c4 c5 c6 c7 c8 c9 l = some (if plainE c0 c1 c2 c3 c4 c5 c6 c7 c8 c9 l = 0 then settleV c1 c2 c3 else 0) := by
  unfold bound_Settle.f
  rw [of_eq _ _ _ _ _ _ _ _ _ _ _ k hk, Option.bind_some]
  by_cases hp : plainE c0 c1 c2 c3 c4 c5 c6 c7 c8 c9 l = 0
  · have h := plain_iff.1 hp
    have := h.p
    have := h.p0
    have := length_bd _ _ _ _ _ _ _ _ _ _ _ h
    rw [if_pos (by simp [hp]), length_eq _ _ _ _ _ _ _ _ _ _ _ k hk, Option.bind_some, if_pos hp, if_pos hp, w64 (a := 4 * lengthV c1 c2) (by omega), w64 (a := 1 + 4 * lengthV c1 c2) (by omega), w64 (a := 2 * c3) (by omega), w64 (by omega)]
    rfl
  · rw [if_neg (by simp [hp]), if_neg hp]
theorem all_eq (k : Nat) (hk : 8 ≤ k) : bound_All.f k c0 c1 c2 c3 c4 c5 c6 c7 c8 c9 l = some (if plainE c0 c1 c2 c3 c4 c5 c6 c7 c8 c9 l = 0 then settleV c1 c2 c3 + 4 * c3 else 0) := by
  unfold bound_All.f
  rw [of_eq _ _ _ _ _ _ _ _ _ _ _ k hk, Option.bind_some]
  by_cases hp : plainE c0 c1 c2 c3 c4 c5 c6 c7 c8 c9 l = 0
  · have h := plain_iff.1 hp
    have := h.p
    have := h.p0
    have := length_bd _ _ _ _ _ _ _ _ _ _ _ h
    rw [if_pos (by simp [hp]), settle_eq _ _ _ _ _ _ _ _ _ _ _ k hk, Option.bind_some, if_pos hp, if_pos hp, w64 (a := 4 * c3) (by omega), w64 (by unfold settleV; omega)]
  · rw [if_neg (by simp [hp]), if_neg hp]
end
end Go.Proofs.Ythdoghhmooodjaa.Facts
namespace Go.Proofs.Ythdoghhmooodjaa.Facts
open Go.RowKit Go.Proofs.Ythdoghhmooodjaa.Gn Go.Proofs.YthdoghhmooodjaaW.PrintWords Go.Proofs.YthdoghhmooodjaaW.PrintLast
set_option linter.unusedVariables false
set_option linter.unusedSimpArgs false
section
variable (c0 c1 c2 c3 c4 c5 c6 c7 c8 c9 : Int) (l : List Int)
theorem ref_begin_eq (k : Nat) (hk : 700 ≤ k) (i : Int) : r04_Begin.f k c0 c1 c2 c3 c4 c5 c6 c7 c8 c9 l i = some (if plainE c0 c1 c2 c3 c4 c5 c6 c7 c8 c9 l = 0 ∧ 0 ≤ i ∧ i < l.length then beginV c6 c7 i else 0) := by
  unfold r04_Begin.f
  rw [ref_plain_eq _ _ _ _ _ _ _ _ _ _ _ k hk, Option.bind_some]
  by_cases hp : plainE c0 c1 c2 c3 c4 c5 c6 c7 c8 c9 l = 0
  · rw [if_pos hp]
    by_cases h0 : i < 0
    · rw [if_pos h0, if_neg (by omega)]
    · rw [if_neg h0]
      by_cases h1 : i ≥ l.length
      · rw [if_pos h1, if_neg (by omega)]
      · rw [if_neg h1, if_pos ⟨hp, by omega, by omega⟩, begin_w (plain_iff.1 hp) ⟨by omega, by omega⟩]
  · rw [if_neg hp, if_neg (fun x => hp x.1)]
theorem ref_middle_eq (k : Nat) (hk : 700 ≤ k) (i : Int) : r04_Middle.f k c0 c1 c2 c3 c4 c5 c6 c7 c8 c9 l i = some (if plainE c0 c1 c2 c3 c4 c5 c6 c7 c8 c9 l = 0 ∧ 0 ≤ i ∧ i < l.length then middleV c6 c7 i else 0) := by
  unfold r04_Middle.f
  rw [ref_plain_eq _ _ _ _ _ _ _ _ _ _ _ k hk, Option.bind_some]
  by_cases hp : plainE c0 c1 c2 c3 c4 c5 c6 c7 c8 c9 l = 0
  · rw [if_pos hp]
    by_cases h0 : i < 0
    · rw [if_pos h0, if_neg (by omega)]
    · rw [if_neg h0]
      by_cases h1 : i ≥ l.length
      · rw [if_pos h1, if_neg (by omega)]
      · have hi : 0 ≤ i ∧ i < l.length := ⟨by omega, by omega⟩
        rw [if_neg h1, ref_begin_eq _ _ _ _ _ _ _ _ _ _ _ k hk, Option.bind_some, if_pos ⟨hp, hi⟩, if_pos ⟨hp, hi⟩, middle_w (plain_iff.1 hp) hi]
  · rw [if_neg hp, if_neg (fun x => hp x.1)]
theorem ref_guard_eq (k : Nat) (hk : 700 ≤ k) : r04_Guard.f k c0 c1 c2 c3 c4 c5 c6 c7 c8 c9 l = some (if plainE c0 c1 c2 c3 c4 c5 c6 c7 c8 c9 l = 0 then guardV c2 c4 c5 c6 c7 l.length else 0) := by
  unfold r04_Guard.f
  rw [ref_plain_eq _ _ _ _ _ _ _ _ _ _ _ k hk, Option.bind_some]
  by_cases hp : plainE c0 c1 c2 c3 c4 c5 c6 c7 c8 c9 l = 0
  · have h := plain_iff.1 hp
    have a := apart_bd h
    have hr := h.r
    have hd := h.dr
    have q : 0 ≤ 2 * c5 * middleV c6 c7 (l.length - 1) / (c4 - c5) := Int.ediv_nonneg (by omega) (by omega)
    have q2 : 2 * c5 * middleV c6 c7 (l.length - 1) / (c4 - c5) ≤ 2 * c5 * middleV c6 c7 (l.length - 1) := Int.ediv_le_self _ (by omega)
    have ce := ceil_eq (a := 2 * c5 * middleV c6 c7 (l.length - 1)) (b := c4 - c5) (by omega) (by omega)
    rw [if_pos hp, if_pos hp, len_w h, ref_middle_eq _ _ _ _ _ _ _ _ _ _ _ k hk, Option.bind_some, if_pos (And.intro hp (last_i h)), slow_w h, if_neg (by omega), w64 (a := 2 * c5) (by omega), w64 (a := 2 * c5 * middleV c6 c7 (l.length - 1)) (by omega), Int.tdiv_eq_ediv_of_nonneg (by omega), Int.tmod_eq_emod_of_nonneg (by omega)]
    unfold guardV
    rw [ce]
    by_cases hm : 2 * c5 * middleV c6 c7 (l.length - 1) % (c4 - c5) > 0
    · rw [if_pos hm, if_pos hm, w64 (a := 2 * c5 * middleV c6 c7 (l.length - 1) / (c4 - c5)) (by omega), guard_tail h _ ⟨by omega, by omega⟩]
    · rw [if_neg hm, if_neg hm, guard_tail h _ ⟨by omega, by omega⟩, Int.add_zero]
  · rw [if_neg hp, if_neg hp]
theorem ref_right_eq (k : Nat) (hk : 700 ≤ k) : r04_Right.f k c0 c1 c2 c3 c4 c5 c6 c7 c8 c9 l = some (rightE c0 c1 c2 c3 c4 c5 c6 c7 c8 c9 l) := by
  unfold r04_Right.f rightE
  rw [ref_plain_eq _ _ _ _ _ _ _ _ _ _ _ k hk, Option.bind_some]
  by_cases hp : plainE c0 c1 c2 c3 c4 c5 c6 c7 c8 c9 l = 0
  · have h := plain_iff.1 hp
    have gb := guard_bd h
    have mb := middle_bd h (last_i h)
    have hr := h.r
    have hd := h.dr
    have hdd := h.d
    have hpp := h.p
    have hp0 := h.p0
    have b1 := mul_bd (x := c2) (y := c4) (a := 4) (b := 64) ⟨by omega, by omega⟩ ⟨by omega, by omega⟩
    have b2 := mul_bd (x := c3 - 1) (y := c4 - c5) (a := 400) (b := 64) ⟨by omega, by omega⟩ ⟨by omega, by omega⟩
    have b3 := mul_bd (x := c3) (y := c4 + c5) (a := 400) (b := 128) ⟨by omega, by omega⟩ ⟨by omega, by omega⟩
    rw [if_pos hp, if_pos hp, ref_guard_eq _ _ _ _ _ _ _ _ _ _ _ k hk, Option.bind_some, if_pos hp, len_w h, ref_middle_eq _ _ _ _ _ _ _ _ _ _ _ k hk, Option.bind_some, if_pos (And.intro hp (last_i h)), slow_w h, fast_w h]
    rw [w64 (a := 2 * guardV c2 c4 c5 c6 c7 l.length) (by omega), w64 (a := c2 * c4) (by omega), w64 (a := middleV c6 c7 (l.length - 1) + c2 * c4) (by omega), w64 (a := middleV c6 c7 (l.length - 1) + c2 * c4 + guardV c2 c4 c5 c6 c7 l.length) (by omega), w64 (a := c3 - 1) (by omega), w64 (a := (c3 - 1) * (c4 - c5)) (by omega), w64 (a := c3 * (c4 + c5)) (by omega)]
    by_cases g1 : c7 ≤ 2 * guardV c2 c4 c5 c6 c7 l.length
    · rw [if_pos g1, if_neg (fun x => absurd x.1 (by omega))]
    · rw [if_neg g1]
      by_cases g2 : middleV c6 c7 (l.length - 1) + c2 * c4 + guardV c2 c4 c5 c6 c7 l.length > (c3 - 1) * (c4 - c5)
      · rw [if_pos g2, if_neg (fun x => absurd x.2.1 (by omega))]
      · rw [if_neg g2]
        by_cases g3 : c3 * (c4 + c5) ≥ 32768
        · rw [if_pos g3, if_neg (fun x => absurd x.2.2 (by omega))]
        · rw [if_neg g3, if_pos ⟨by omega, by omega, by omega⟩]
  · rw [if_neg hp, if_neg hp]
    rfl
end
end Go.Proofs.Ythdoghhmooodjaa.Facts
