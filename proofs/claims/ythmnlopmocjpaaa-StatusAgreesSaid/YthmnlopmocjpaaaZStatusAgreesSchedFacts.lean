import Derived.Test.YthmnlopmocjpaaaZStatusAgreesGn5
import Derived.Test.YthmnlopmocjpaaaZStatusAgreesGn22
import Derived.Test.YthmnlopmocjpaaaZStatusAgreesRingFacts0
import Derived.Test.YthmnlopmocjpaaaZStatusAgreesConfFacts
import Derived.Test.YthmnlopmocjpaaaZStatusAgreesBoundFacts
import Derived.Test.YthmnlopmocjpaaaZStatusAgreesBoundRef
namespace Go.Proofs.Ythmnlopmocjpaaa.Facts
open Go.RowKit Go.Proofs.Ythmnlopmocjpaaa.Gn Go.Proofs.YthmnlopmocjpaaaW.PrintWords Go.Proofs.YthmnlopmocjpaaaW.PrintLast
set_option linter.unusedVariables false
/-- The slot to which units belong. -/
def slotV (c6 c7 n e : Int) : Int := if e < c6 then -1 else if (e - c6) / c7 ≥ n then -1 else (e - c6) / c7
theorem quot_bd {e c7 : Int} (h : 1 ≤ c7) : e / c7 * c7 ≤ e ∧ e < (e / c7 + 1) * c7 :=
  ⟨Int.ediv_mul_le e (by omega), Int.lt_ediv_add_one_mul_self e (by omega)⟩
theorem mul_mono {i j c : Int} (h : i ≤ j) (hc : 0 ≤ c) : i * c ≤ j * c := Int.mul_le_mul_of_nonneg_right h hc
/-- Who tells of all borders alike tells the same slot. -/
theorem slotV_eq {c6 c7 x y : Int} {n : Nat} (h7 : 1 ≤ c7) (h : ∀ i : Nat, i ≤ n → (c6 + (i : Int) * c7 ≤ x ↔ c6 + (i : Int) * c7 ≤ y)) : slotV c6 c7 n x = slotV c6 c7 n y := by
  have h0 := h 0 (by omega)
  have hn := h n (by omega)
  simp only [Int.natCast_zero, Int.zero_mul, Int.add_zero] at h0
  have qx := quot_bd (e := x - c6) h7
  have qy := quot_bd (e := y - c6) h7
  have key : ∀ u v : Int, ¬ u < c6 → ¬ v < c6 → ¬ (u - c6) / c7 ≥ n → (∀ i : Nat, i ≤ n → (c6 + (i : Int) * c7 ≤ u ↔ c6 + (i : Int) * c7 ≤ v)) → (u - c6) / c7 = (v - c6) / c7 := by
    intro u v hu hv hq hh
    have qu := quot_bd (e := u - c6) h7
    have p0 : 0 ≤ (u - c6) / c7 := Int.ediv_nonneg (by omega) (by omega)
    obtain ⟨q, hq'⟩ := Int.eq_ofNat_of_zero_le p0
    rw [hq'] at qu hq ⊢
    have a := (hh q (by omega)).1 (by omega)
    have b := hh (q + 1) (by omega)
    have e : ((q + 1 : Nat) : Int) * c7 = ((q : Int) + 1) * c7 := by push_cast; rfl
    rw [e] at b
    have : ¬ c6 + ((q : Int) + 1) * c7 ≤ v := fun x => by have := b.2 x; omega
    refine (Int.le_antisymm ?_ ?_)
    · exact Int.le_ediv_of_mul_le (by omega) (by omega)
    · have := Int.ediv_lt_of_lt_mul (a := v - c6) (b := (q : Int) + 1) (c := c7) (by omega) (by omega)
      omega
  have over : ∀ u v : Int, ¬ v < c6 → (u - c6) / c7 ≥ n → ¬ u < c6 → (c6 + (n : Int) * c7 ≤ u → c6 + (n : Int) * c7 ≤ v) → (v - c6) / c7 ≥ n := by
    intro u v hv hq hu hh
    have qu := quot_bd (e := u - c6) h7
    have := mul_mono (c := c7) (show (n : Int) ≤ (u - c6) / c7 by omega) (by omega)
    exact Int.le_ediv_of_mul_le (by omega) (by have := hh (by omega); omega)
  unfold slotV
  by_cases hx : x < c6
  · rw [if_pos hx, if_pos (by omega)]
  · have hy : ¬ y < c6 := by omega
    rw [if_neg hx, if_neg hy]
    by_cases gx : (x - c6) / c7 ≥ n
    · rw [if_pos gx, if_pos (over x y (by omega) gx hx hn.1)]
    · have gy : ¬ (y - c6) / c7 ≥ n := fun g => gx (over y x hx g (by omega) hn.2)
      rw [if_neg gx, if_neg gy, key x y hx (by omega) gx h]
section
variable (c0 c1 c2 c3 c4 c5 c6 c7 c8 c9 : Int) (l : List Int)
theorem slot_eq (e : Int) (he : -9223372036854775808 ≤ e ∧ e ≤ 9223372036854775807) (k : Nat) (hk : 9 ≤ k) : sched_Slot.f k c0 c1 c2 c3 c4 c5 c6 c7 c8 c9 l e = some (if plainE c0 c1 c2 c3 c4 c5 c6 c7 c8 c9 l = 0 then slotV c6 c7 l.length e else -1) := by
  obtain ⟨k, rfl, _⟩ := peel (m := 8) hk
  unfold sched_Slot.f
  rw [plain_eq (k + 1) (by omega), Option.bind_some]
  by_cases hp : plainE c0 c1 c2 c3 c4 c5 c6 c7 c8 c9 l = 0
  · have h := plain_iff.1 hp
    have h6 := h.o
    have h7 := h.s
    rw [if_pos hp, if_pos hp]
    unfold slotV
    by_cases c : e < c6
    · rw [decide_eq_true c, sched_Slot.j0, if_pos rfl, if_pos c]
    · have q0 : 0 ≤ (e - c6) / c7 := Int.ediv_nonneg (by omega) (by omega)
      have q1 : (e - c6) / c7 ≤ e - c6 := Int.ediv_le_self _ (by omega)
      rw [decide_eq_false c, sched_Slot.j0, if_neg (by decide), if_neg (by omega), if_neg c, w64 (a := e - c6) (by omega), Int.tdiv_eq_ediv_of_nonneg (by omega), w64 (by omega)]
      split <;> rfl
  · rw [if_neg hp, if_neg hp, sched_Slot.j0, if_pos rfl]
theorem rslot_l0 (h : Plain c0 c1 c2 c3 c4 c5 c6 c7 c8 c9 l) (e : Int) : ∀ (d k j : Nat), j + d = l.length → d + 701 ≤ k → (j = 0 ∨ c6 + (j : Int) * c7 ≤ e) → r21_Slot.l0 k e (j : Int) c0 c1 c2 c3 c4 c5 c6 c7 c8 c9 l = some (slotV c6 c7 l.length e)
  | 0, k, j, hj, hk, he => by
    obtain ⟨k, rfl, _⟩ := peel (m := 700) (by omega)
    have hl := h.len
    have h7 := h.s
    have hje : c6 + (j : Int) * c7 ≤ e := he.resolve_left (by omega)
    have : (0 : Int) ≤ (j : Int) * c7 := Int.mul_nonneg (by omega) (by omega)
    rw [r21_Slot.l0, if_neg (by omega)]
    unfold slotV
    rw [if_neg (by omega), if_pos (Int.le_ediv_of_mul_le (by omega) (by rw [show (l.length : Int) = (j : Int) from by omega]; omega))]
  | d + 1, k, j, hj, hk, he => by
    obtain ⟨k, rfl, hk'⟩ := peel (m := d + 701) (by omega)
    have hl := h.len
    have h7 := h.s
    have h6 := h.o
    have hb := begin_bd h (i := (j : Int)) ⟨by omega, by omega⟩
    have e1 : ((j + 1 : Nat) : Int) * c7 = (j : Int) * c7 + c7 := by push_cast; rw [Int.add_mul, Int.one_mul]
    have hc : plainE c0 c1 c2 c3 c4 c5 c6 c7 c8 c9 l = 0 ∧ 0 ≤ (j : Int) ∧ (j : Int) < l.length := ⟨plain_iff.2 h, by omega, by omega⟩
    rw [r21_Slot.l0, if_pos (by omega), ref_begin_eq _ _ _ _ _ _ _ _ _ _ _ k (by omega), Option.bind_some, if_pos hc, Option.bind_some, w64_step (by omega)]
    unfold beginV
    by_cases g : e ≥ c6 + (j : Int) * c7
    · rw [if_pos g, w64 (a := c6 + (j : Int) * c7 + c7) (by omega)]
      by_cases g2 : e < c6 + (j : Int) * c7 + c7
      · rw [if_pos g2]
        have q : (e - c6) / c7 = j := by
          refine Int.le_antisymm ?_ (Int.le_ediv_of_mul_le (by omega) (by omega))
          have := Int.ediv_lt_of_lt_mul (a := e - c6) (b := (j : Int) + 1) (c := c7) (by omega) (by rw [Int.add_mul, Int.one_mul]; omega)
          omega
        unfold slotV
        rw [if_neg (by omega), q, if_neg (by omega)]
      · rw [if_neg g2]
        exact rslot_l0 h e d k (j + 1) (by omega) hk' (Or.inr (by omega))
    · rw [if_neg g]
      have : j = 0 := he.resolve_right (by omega)
      subst this
      have below : ∀ (d k j : Nat), j + d = l.length → d + 701 ≤ k → r21_Slot.l0 k e (j : Int) c0 c1 c2 c3 c4 c5 c6 c7 c8 c9 l = some (-1) := by
        intro d
        induction d with
        | zero =>
          intro k j hj hk
          obtain ⟨k, rfl, _⟩ := peel (m := 700) (by omega)
          rw [r21_Slot.l0, if_neg (by omega)]
        | succ d ih =>
          intro k j hj hk
          obtain ⟨k, rfl, hk'⟩ := peel (m := d + 701) (by omega)
          have hb := begin_bd h (i := (j : Int)) ⟨by omega, by omega⟩
          have hc : plainE c0 c1 c2 c3 c4 c5 c6 c7 c8 c9 l = 0 ∧ 0 ≤ (j : Int) ∧ (j : Int) < l.length := ⟨plain_iff.2 h, by omega, by omega⟩
          rw [r21_Slot.l0, if_pos (by omega), ref_begin_eq _ _ _ _ _ _ _ _ _ _ _ k (by omega), Option.bind_some, if_pos hc, w64_step (by omega)]
          unfold beginV
          rw [if_neg (by omega)]
          exact ih k (j + 1) (by omega) hk'
      rw [below d k (0 + 1) (by omega) hk']
      unfold slotV
      rw [if_pos (by omega)]
theorem rslot_eq (e : Int) (k : Nat) (hk : 740 ≤ k) : r21_Slot.f k c0 c1 c2 c3 c4 c5 c6 c7 c8 c9 l e = some (if plainE c0 c1 c2 c3 c4 c5 c6 c7 c8 c9 l = 0 then slotV c6 c7 l.length e else -1) := by
  unfold r21_Slot.f
  rw [ref_plain_eq _ _ _ _ _ _ _ _ _ _ _ k (by omega), Option.bind_some]
  by_cases hp : plainE c0 c1 c2 c3 c4 c5 c6 c7 c8 c9 l = 0
  · have h := plain_iff.1 hp
    have hl := h.len
    rw [if_pos hp, if_pos hp]
    exact rslot_l0 _ _ _ _ _ _ _ _ _ _ _ h e l.length k 0 (by omega) (by omega) (Or.inl rfl)
  · rw [if_neg hp, if_neg hp]
end
end Go.Proofs.Ythmnlopmocjpaaa.Facts
