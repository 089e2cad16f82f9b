import Derived.Test.YthmnlopmocjpaaaZStatusMuteStmtStatusMute
import Derived.Test.YthmnlopmocjpaaaZStatusMuteStatusFacts
namespace Go.Proofs.Ythmnlopmocjpaaa.Pure
open Go.RowKit Go.Proofs.Ythmnlopmocjpaaa.Gn Go.Proofs.YthmnlopmocjpaaaW.PrintWords Go.Proofs.YthmnlopmocjpaaaW.PrintLast Go.Proofs.Ythmnlopmocjpaaa.Facts Go.Proofs.Ythmnlopmocjpaaa.Opens
theorem slotV_rng {c6 c7 e : Int} {n : Nat} (h7 : 1 ≤ c7) : -1 ≤ slotV c6 c7 n e ∧ (1 ≤ n → slotV c6 c7 n e < n) := by
  unfold slotV
  by_cases h : e < c6
  · rw [if_pos h]
    omega
  · have := Int.ediv_nonneg (a := e - c6) (b := c7) (by omega) (by omega)
    rw [if_neg h]
    split <;> omega
theorem slotS_rng (c : S24) (m : S30) : -1 ≤ slotS c m ∧ slotS c m < (c.f10.length : Int) := by
  unfold slotS
  by_cases hp : plainE c.f0 c.f1 c.f2 c.f3 c.f4 c.f5 c.f6 c.f7 c.f8 c.f9 c.f10 = 0
  · have h := plain_iff.1 hp
    have h7 := h.s
    have hl := h.len
    have := slotV_rng (c6 := c.f6) (c7 := c.f7) (e := (m.f0 - m.f1) % 65536) (n := c.f10.length) (by omega)
    rw [if_pos hp]
    split
    · unfold nowV
      rw [if_pos hp]
      omega
    · omega
  · rw [if_neg hp]
    omega
theorem StatusMute : Gn.StatusMute.Pure := by
  intro c m _ _
  refine ⟨1501, ?_⟩
  unfold l27_StatusMute.f
  by_cases h1 : (m.f9.size : Int) > 100
  · rw [if_pos h1, known27 1501 (by omega)]
    rfl
  have hr := slotS_rng c m
  rw [if_neg h1, report_eq c m _ 0 [] (by simp) 1501 (by omega), Option.bind_some, sslot_eq c m 1501 (by omega), Option.bind_some, repS_slot]
  by_cases h2 : m.f8 < 2
  · have e1 : slotS c m = -1 := by
      unfold slotS
      rw [if_neg (show ¬ m.f8 ≥ 2 by omega)]
      split <;> rfl
    have e2 : (repS c m false 0 []).2.1 = false := by
      unfold repS
      split
      · exact decide_eq_false (by omega)
      · rfl
    rw [if_pos h2, e2, if_neg (by decide), if_pos e1, if_pos e1, sword_eq, Option.bind_some, if_neg (fun e => absurd ((word_sync m).1 e) (by omega)), known27 1501 (by omega)]
    rfl
  · rw [if_neg h2, if_pos hr.1, if_pos hr.2, if_pos rfl, sword_eq, Option.bind_some, if_pos ((word_sync m).2 (by omega)), known27 1501 (by omega)]
    rfl
end Go.Proofs.Ythmnlopmocjpaaa.Pure
