import Derived.Test.YthmnlopmocjpaaaZStatusMuteGn5
import Derived.Test.YthmnlopmocjpaaaZStatusMuteGn0
import Derived.Test.YthmnlopmocjpaaaZStatusMuteGn2
import Derived.Test.YthmnlopmocjpaaaZStatusMuteRingFacts0
import Derived.Test.YthmnlopmocjpaaaZStatusMuteCommon
import Derived.Test.YthmnlopmocjpaaaZStatusMuteConfFacts
import Derived.Test.YthmnlopmocjpaaaZStatusMuteBoundFacts
namespace Go.Proofs.Ythmnlopmocjpaaa.Facts
open Go.RowKit Go.Proofs.Ythmnlopmocjpaaa.Gn Go.Proofs.YthmnlopmocjpaaaW.PrintWords Go.Proofs.YthmnlopmocjpaaaW.PrintLast
set_option linter.unusedVariables false
/-- The slot to which units belong. -/
def slotV (c6 c7 n e : Int) : Int := if e < c6 then -1 else if (e - c6) / c7 ≥ n then -1 else (e - c6) / c7
section
variable (c0 c1 c2 c3 c4 c5 c6 c7 c8 c9 : Int) (l : List Int)
theorem slot_eq (e : Int) (he : -9223372036854775808 ≤ e ∧ e ≤ 9223372036854775807) (k : Nat) (hk : 9 ≤ k) : sched_Slot.f k c0 c1 c2 c3 c4 c5 c6 c7 c8 c9 l e = some (if plainE c0 c1 c2 c3 c4 c5 c6 c7 c8 c9 l = 0 then slotV c6 c7 l.length e else -1) := by
  obtain ⟨k, rfl, _⟩ := peel (m := 8) hk
  unfold sched_Slot.f
  rw [plain_eq (k + 1) (by omega), Option.bind_some]
  by_cases hp : plainE c0 c1 c2 c3 c4 c5 c6 c7 c8 c9 l = 0
  · have h := plain_iff.1 hp
    have h6 := h.o
    have h7 := h.s
    rw [if_pos hp, if_pos hp]
    unfold slotV
    by_cases c : e < c6
    · rw [decide_eq_true c, sched_Slot.j0, if_pos rfl, if_pos c]
    · have q0 : 0 ≤ (e - c6) / c7 := Int.ediv_nonneg (by omega) (by omega)
      have q1 : (e - c6) / c7 ≤ e - c6 := Int.ediv_le_self _ (by omega)
      rw [decide_eq_false c, sched_Slot.j0, if_neg (by decide), if_neg (by omega), if_neg c, w64 (a := e - c6) (by omega), Int.tdiv_eq_ediv_of_nonneg (by omega), w64 (by omega)]
      split <;> rfl
  · rw [if_neg hp, if_neg hp, sched_Slot.j0, if_pos rfl]
end
end Go.Proofs.Ythmnlopmocjpaaa.Facts
