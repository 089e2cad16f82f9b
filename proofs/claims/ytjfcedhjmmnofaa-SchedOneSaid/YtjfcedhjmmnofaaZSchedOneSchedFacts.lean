import Derived.Test.YtjfcedhjmmnofaaZSchedOneGn3
import Derived.Test.YtjfcedhjmmnofaaZSchedOneGn0
import Derived.Test.YtjfcedhjmmnofaaZSchedOneGn1
import Derived.Test.YtjfcedhjmmnofaaZSchedOneGn11
import Derived.Test.YtjfcedhjmmnofaaZSchedOneRingFacts0
import Derived.Test.YtjfcedhjmmnofaaZSchedOneCommon
import Derived.Test.YtjfcedhjmmnofaaZSchedOneConfFacts
import Derived.Test.YtjfcedhjmmnofaaZSchedOneBoundFacts
namespace Go.Proofs.Ytjfcedhjmmnofaa.Facts
open Go.RowKit Go.Proofs.Ytjfcedhjmmnofaa.Gn Go.Proofs.YtjfcedhjmmnofaaW.PrintWords Go.Proofs.YtjfcedhjmmnofaaW.PrintLast
set_option linter.unusedVariables false
/-- The slot to which units belong. -/
def slotV (c6 c7 n e : Int) : Int := if e < c6 then -1 else if (e - c6) / c7 ≥ n then -1 else (e - c6) / c7
theorem quot_bd {e c7 : Int} (h : 1 ≤ c7) : e / c7 * c7 ≤ e ∧ e < (e / c7 + 1) * c7 :=
  ⟨Int.ediv_mul_le e (by omega), Int.lt_ediv_add_one_mul_self e (by omega)⟩
theorem mul_mono {i j c : Int} (h : i ≤ j) (hc : 0 ≤ c) : i * c ≤ j * c := Int.mul_le_mul_of_nonneg_right h hc
section
variable (c0 c1 c2 c3 c4 c5 c6 c7 c8 c9 : Int) (l : List Int)
theorem slot_eq (e : Int) (he : -9223372036854775808 ≤ e ∧ e ≤ 9223372036854775807) (k : Nat) (hk : 9 ≤ k) : sched_Slot.f k c0 c1 c2 c3 c4 c5 c6 c7 c8 c9 l e = some (if plainE c0 c1 c2 c3 c4 c5 c6 c7 c8 c9 l = 0 then slotV c6 c7 l.length e else -1) := by
  obtain ⟨k, rfl, _⟩ := peel (m := 8) hk
  unfold sched_Slot.f
  rw [plain_eq (k + 1) (by omega), Option.bind_some]
  by_cases hp : plainE c0 c1 c2 c3 c4 c5 c6 c7 c8 c9 l = 0
  · have h := plain_iff.1 hp
    have h6 := h.o
    have h7 := h.s
    rw [if_pos hp, if_pos hp]
    unfold slotV
    by_cases c : e < c6
    · rw [decide_eq_true c, sched_Slot.j0, if_pos rfl, if_pos c]
    · have q0 : 0 ≤ (e - c6) / c7 := Int.ediv_nonneg (by omega) (by omega)
      have q1 : (e - c6) / c7 ≤ e - c6 := Int.ediv_le_self _ (by omega)
      rw [decide_eq_false c, sched_Slot.j0, if_neg (by decide), if_neg (by omega), if_neg c, w64 (a := e - c6) (by omega), Int.tdiv_eq_ediv_of_nonneg (by omega), w64 (by omega)]
      split <;> rfl
  · rw [if_neg hp, if_neg hp, sched_Slot.j0, if_pos rfl]
def ownerV (i : Int) : Int := if plainE c0 c1 c2 c3 c4 c5 c6 c7 c8 c9 l = 0 ∧ 0 ≤ i ∧ i < l.length then rd l i else -1
theorem owner_eq (i : Int) (k : Nat) (hk : 9 ≤ k) : sched_Owner.f k c0 c1 c2 c3 c4 c5 c6 c7 c8 c9 l i = some (ownerV c0 c1 c2 c3 c4 c5 c6 c7 c8 c9 l i) := by
  unfold sched_Owner.f ownerV
  rw [plain_eq k (by omega), Option.bind_some]
  by_cases hp : plainE c0 c1 c2 c3 c4 c5 c6 c7 c8 c9 l = 0
  · rw [if_pos hp]
    by_cases c : i < 0
    · rw [if_pos c, if_neg (fun x => by omega)]
    · rw [if_neg c]
      by_cases cc : i ≥ (l.length : Int)
      · rw [if_pos cc, if_neg (fun x => by omega)]
      · rw [if_neg cc, if_pos (by omega), if_pos (by omega), if_pos ⟨hp, by omega, by omega⟩]
  · rw [if_neg hp, if_neg (fun x => hp x.1)]
theorem rd_owner (h : Plain c0 c1 c2 c3 c4 c5 c6 c7 c8 c9 l) {i : Int} (hi : 0 ≤ i ∧ i < l.length) : 0 ≤ rd l i ∧ rd l i < c0 := by
  obtain ⟨j, rfl⟩ := Int.eq_ofNat_of_zero_le hi.1
  rw [rd_at l j (by omega)]
  exact h.own _ (List.getElem_mem _)
end
end Go.Proofs.Ytjfcedhjmmnofaa.Facts
