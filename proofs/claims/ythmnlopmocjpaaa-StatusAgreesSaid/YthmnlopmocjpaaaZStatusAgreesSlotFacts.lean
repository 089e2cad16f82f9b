import Derived.Test.YthmnlopmocjpaaaZStatusAgreesGn8
import Derived.Test.YthmnlopmocjpaaaZStatusAgreesGn0
import Derived.Test.YthmnlopmocjpaaaZStatusAgreesGn2
import Derived.Test.YthmnlopmocjpaaaZStatusAgreesGn22
import Derived.Test.YthmnlopmocjpaaaZStatusAgreesGn23
import Derived.Test.YthmnlopmocjpaaaZStatusAgreesGn38
import Derived.Test.YthmnlopmocjpaaaZStatusAgreesGn39
import Derived.Test.YthmnlopmocjpaaaZStatusAgreesGn40
import Derived.Test.YthmnlopmocjpaaaZStatusAgreesRingFacts0
import Derived.Test.YthmnlopmocjpaaaZStatusAgreesConfFacts
import Derived.Test.YthmnlopmocjpaaaZStatusAgreesBoundFacts
import Derived.Test.YthmnlopmocjpaaaZStatusAgreesBoundRef
import Derived.Test.YthmnlopmocjpaaaZStatusAgreesSchedFacts
import Derived.Test.YthmnlopmocjpaaaZStatusAgreesSlotRing
namespace Go.Proofs.Ythmnlopmocjpaaa.Facts
open Go.RowKit Go.Proofs.Ythmnlopmocjpaaa.Gn Go.Proofs.YthmnlopmocjpaaaW.PrintWords Go.Proofs.YthmnlopmocjpaaaW.PrintLast
set_option linter.unusedVariables false
section
variable (c0 c1 c2 c3 c4 c5 c6 c7 c8 c9 : Int) (l : List Int)
def clearsB (lo hi b : Int) : Bool := decide (lo > b) || decide (hi < b)
def nominalV (t : Int) : Int := if (0 ≤ t ∧ t ≤ 2000) ∧ plainE c0 c1 c2 c3 c4 c5 c6 c7 c8 c9 l = 0 then slotV c6 c7 l.length (t * c4) else -1
theorem rnominal_eq (t : Int) (k : Nat) (hk : 740 ≤ k) : r22_Nominal.f k c0 c1 c2 c3 c4 c5 c6 c7 c8 c9 l t = some (nominalV c0 c1 c2 c3 c4 c5 c6 c7 c8 c9 l t) := by
  unfold r22_Nominal.f nominalV
  by_cases c : t < 0
  · rw [if_pos c, if_neg (fun x => by omega)]
  · rw [if_neg c]
    by_cases cc : t > 2000
    · rw [if_pos cc, if_neg (fun x => by omega)]
    · rw [if_neg cc, rslot_eq _ _ _ _ _ _ _ _ _ _ _ _ k hk, Option.bind_some]
      by_cases hp : plainE c0 c1 c2 c3 c4 c5 c6 c7 c8 c9 l = 0
      · have h := plain_iff.1 hp
        have hr := h.r
        have := mul_bd (x := t) (y := c4) (a := 2000) (b := 64) ⟨by omega, by omega⟩ ⟨by omega, by omega⟩
        rw [if_pos hp, if_pos ⟨⟨by omega, by omega⟩, hp⟩, w64 (by omega)]
      · rw [if_neg hp, if_neg (fun x => hp x.2)]
def nowV (e : Int) : Int := if plainE c0 c1 c2 c3 c4 c5 c6 c7 c8 c9 l = 0 then slotV c6 c7 l.length e else -1
theorem now_eq (a b : Int) (k : Nat) (hk : 9 ≤ k) : slot_Now.f k c0 c1 c2 c3 c4 c5 c6 c7 c8 c9 l a b = some (nowV c0 c1 c2 c3 c4 c5 c6 c7 c8 c9 l ((a - b) % 65536)) := by
  unfold slot_Now.f nowV
  rw [elapsed_eq, Option.bind_some, slot_eq _ _ _ _ _ _ _ _ _ _ _ _ (by omega) k hk]
  rfl
/-- Whether something holds of all borders from one on. -/
def bordAll (p : Int → Bool) : Nat → Nat → Bool
  | 0, j => p (c6 + (j : Int) * c7)
  | d + 1, j => p (c6 + (j : Int) * c7) && bordAll p d (j + 1)
theorem bordAll_at (p : Int → Bool) : ∀ (d j : Nat), bordAll c6 c7 p d j = true → ∀ i, j ≤ i → i ≤ j + d → p (c6 + (i : Int) * c7) = true
  | 0, j, h, i, h0, h1 => by
    rw [show i = j from by omega]
    exact h
  | d + 1, j, h, i, h0, h1 => by
    rw [bordAll, Bool.and_eq_true] at h
    by_cases e : i = j
    · rw [e]; exact h.1
    · exact bordAll_at p d (j + 1) h.2 i (by omega) (by omega)
def clearV (t : Int) : Bool := decide ((0 ≤ t ∧ t ≤ 2000) ∧ plainE c0 c1 c2 c3 c4 c5 c6 c7 c8 c9 l = 0) && bordAll c6 c7 (clearsB (t * (c4 - c5)) (t * (c4 + c5))) l.length 0
theorem tick_bd (h : Plain c0 c1 c2 c3 c4 c5 c6 c7 c8 c9 l) {t : Int} (ht : 0 ≤ t ∧ t ≤ 2000) : (0 ≤ t * (c4 - c5) ∧ t * (c4 - c5) ≤ 128000) ∧ (0 ≤ t * (c4 + c5) ∧ t * (c4 + c5) ≤ 256000) ∧ (0 ≤ t * c4 ∧ t * c4 ≤ 128000) ∧ (0 ≤ t * c5 ∧ t * c5 ≤ 128000) ∧ t * (c4 - c5) = t * c4 - t * c5 ∧ t * (c4 + c5) = t * c4 + t * c5 := by
  have hr := h.r
  have hd := h.dr
  have a := mul_bd (x := t) (y := c4 - c5) (a := 2000) (b := 64) ht ⟨by omega, by omega⟩
  have b := mul_bd (x := t) (y := c4 + c5) (a := 2000) (b := 128) ht ⟨by omega, by omega⟩
  have c := mul_bd (x := t) (y := c4) (a := 2000) (b := 64) ht ⟨by omega, by omega⟩
  have d := mul_bd (x := t) (y := c5) (a := 2000) (b := 64) ht ⟨by omega, by omega⟩
  exact ⟨by omega, by omega, by omega, by omega, Int.mul_sub .., Int.mul_add ..⟩
theorem far_eq (h : Plain c0 c1 c2 c3 c4 c5 c6 c7 c8 c9 l) {t b : Int} (ht : 0 ≤ t ∧ t ≤ 2000) (hb : 0 ≤ b ∧ b ≤ 1000000) : r22_far.f c0 c1 c2 c3 c4 c5 c6 c7 c8 c9 l t b = some (clearsB (t * (c4 - c5)) (t * (c4 + c5)) b) := by
  have k := tick_bd _ _ _ _ _ _ _ _ _ _ _ h ht
  unfold r22_far.f clearsB
  rw [w64 (a := t * c4) (by omega), w64 (a := t * c4 - b) (by omega), w64 (a := t * c5) (by omega), w64 (a := -(t * c4 - b)) (by omega)]
  by_cases c : t * c4 - b > t * c5
  · rw [if_pos c, decide_eq_true (by omega)]; rfl
  · rw [if_neg c, decide_eq_false (show ¬ t * (c4 - c5) > b by omega)]
    congr 1
    rw [Bool.false_or, Bool.eq_iff_iff, decide_eq_true_iff, decide_eq_true_iff]
    omega
theorem rclear_l0 (h : Plain c0 c1 c2 c3 c4 c5 c6 c7 c8 c9 l) {t : Int} (ht : 0 ≤ t ∧ t ≤ 2000) : ∀ (d k j : Nat), j + d = l.length → d + 701 ≤ k → r22_Clear.l0 k t (j : Int) c0 c1 c2 c3 c4 c5 c6 c7 c8 c9 l = some (bordAll c6 c7 (clearsB (t * (c4 - c5)) (t * (c4 + c5))) d j)
  | 0, k, j, hj, hk => by
    obtain ⟨k, rfl, _⟩ := peel (m := 700) (by omega)
    have hl := h.len
    have h7 := h.s
    have h6 := h.o
    have hb := begin_bd h (last_i h)
    have e1 : (l.length : Int) * c7 = ((l.length : Int) - 1) * c7 + c7 := by rw [Int.sub_mul, Int.one_mul]; omega
    rw [r22_Clear.l0, if_neg (by omega), len_w h, ref_begin_eq _ _ _ _ _ _ _ _ _ _ _ k (by omega), Option.bind_some, if_pos ⟨plain_iff.2 h, last_i h⟩]
    unfold beginV
    rw [w64 (by omega), far_eq _ _ _ _ _ _ _ _ _ _ _ h ht (by omega), Option.bind_some, bordAll, show (j : Int) = (l.length : Int) from by omega, e1, ← Int.add_assoc]
  | d + 1, k, j, hj, hk => by
    obtain ⟨k, rfl, hk'⟩ := peel (m := d + 701) (by omega)
    have hl := h.len
    have h6 := h.o
    have hb := begin_bd h (i := (j : Int)) ⟨by omega, by omega⟩
    have hc : plainE c0 c1 c2 c3 c4 c5 c6 c7 c8 c9 l = 0 ∧ 0 ≤ (j : Int) ∧ (j : Int) < l.length := ⟨plain_iff.2 h, by omega, by omega⟩
    rw [r22_Clear.l0, if_pos (by omega), ref_begin_eq _ _ _ _ _ _ _ _ _ _ _ k (by omega), Option.bind_some, if_pos hc]
    unfold beginV
    rw [far_eq _ _ _ _ _ _ _ _ _ _ _ h ht (by omega), Option.bind_some, bordAll, w64_step (by omega)]
    cases clearsB (t * (c4 - c5)) (t * (c4 + c5)) (c6 + (j : Int) * c7) with
    | false => rfl
    | true =>
      rw [if_pos rfl, rclear_l0 h ht d k (j + 1) (by omega) hk']
      rfl
theorem rclear_eq (t : Int) (k : Nat) (hk : 740 ≤ k) : r22_Clear.f k c0 c1 c2 c3 c4 c5 c6 c7 c8 c9 l t = some (clearV c0 c1 c2 c3 c4 c5 c6 c7 c8 c9 l t) := by
  obtain ⟨k, rfl, _⟩ := peel (m := 739) hk
  unfold r22_Clear.f clearV
  rw [ref_plain_eq _ _ _ _ _ _ _ _ _ _ _ (k + 1) (by omega), Option.bind_some]
  by_cases hp : plainE c0 c1 c2 c3 c4 c5 c6 c7 c8 c9 l = 0
  · have h := plain_iff.1 hp
    have hl := h.len
    rw [if_pos hp]
    by_cases c : t < 0
    · rw [if_pos c, r22_Clear.j0, if_pos rfl, decide_eq_false (fun x => by omega)]; rfl
    · rw [if_neg c]
      by_cases cc : t > 2000
      · rw [decide_eq_true cc, r22_Clear.j0, if_pos rfl, decide_eq_false (fun x => by omega)]; rfl
      · rw [decide_eq_false cc, r22_Clear.j0, if_neg (by decide), show (0 : Int) = ((0 : Nat) : Int) from rfl, rclear_l0 _ _ _ _ _ _ _ _ _ _ _ h ⟨by omega, by omega⟩ l.length k 0 (by omega) (by omega), decide_eq_true ⟨⟨by omega, by omega⟩, hp⟩]
        rfl
  · rw [if_neg hp, r22_Clear.j0, if_pos rfl, decide_eq_false (fun x => hp x.2)]
    rfl
end
end Go.Proofs.Ythmnlopmocjpaaa.Facts
