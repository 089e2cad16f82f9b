import Derived.Test.YtjfcedhjmmnofaaZNumberTurnsStmtNumberTurns
import Derived.Test.YtjfcedhjmmnofaaZNumberTurnsNumberFacts
namespace Go.Proofs.Ytjfcedhjmmnofaa.Pure
open Go.RowKit Go.Proofs.Ytjfcedhjmmnofaa.Gn Go.Proofs.YtjfcedhjmmnofaaW.PrintWords Go.Proofs.YtjfcedhjmmnofaaW.PrintLast Go.Proofs.Ytjfcedhjmmnofaa.Facts Go.Proofs.Ytjfcedhjmmnofaa.Opens
theorem rd_row (m first : Int) (n i : Nat) (hi : i < n) : rd (rowV m first n) (i : Int) = (first + (i : Int)) % m := by
  rw [rd_at _ _ (by simp [rowV]; exact hi)]
  simp [rowV]
theorem apart_step (m first : Int) (i : Nat) (hm : 2 ≤ m) : apartV m ((first + (i : Int)) % m) ((first + ((i + 1 : Nat) : Int)) % m) = 1 := by
  unfold apartV
  rw [Int.emod_emod, Int.emod_emod, ← Int.sub_emod]
  rw [show first + ((i + 1 : Nat) : Int) - (first + (i : Int)) = 1 from by omega]
  exact Int.emod_eq_of_lt (by omega) (by omega)
theorem apart_from (m first : Int) (i : Nat) (hi : (i : Int) < m) : apartV m ((first + ((0 : Nat) : Int)) % m) ((first + (i : Int)) % m) = i := by
  unfold apartV
  rw [Int.emod_emod, Int.emod_emod, ← Int.sub_emod]
  rw [show first + (i : Int) - (first + ((0 : Nat) : Int)) = i from by omega]
  exact Int.emod_eq_of_lt (by omega) (by omega)
theorem turns_l0 {c0 c1 c2 c3 c4 c5 c6 c7 c8 c9 : Int} {l : List Int} (h : Plain c0 c1 c2 c3 c4 c5 c6 c7 c8 c9 l) (first : Int) : ∀ (d k j : Nat), (j : Int) + d = c8 → d + 300 ≤ k → bellwetherlaw20_NumberTurns.l0 k (rowV c8 first (c8 + 1).toNat) (j : Int) c0 c1 c2 c3 c4 c5 c6 c7 c8 c9 l = some true
  | 0, k, j, hj, hk => by
    obtain ⟨k, rfl, _⟩ := peel (m := 299) (by omega)
    rw [bellwetherlaw20_NumberTurns.l0, if_neg (by omega), known20 k (by omega)]
    rfl
  | d + 1, k, j, hj, hk => by
    obtain ⟨k, rfl, hk'⟩ := peel (m := d + 300) (by omega)
    have hm := h.m
    have hp := plain_iff.2 h
    have hl : (rowV c8 first (c8 + 1).toNat).length = (c8 + 1).toNat := by simp [rowV]
    have b := emod_bd (first + (j : Int)) c8 (by omega)
    have r0 := rd_row c8 first (c8 + 1).toNat 0 (by omega)
    have r1 := rd_row c8 first (c8 + 1).toNat j (by omega)
    have r2 := rd_row c8 first (c8 + 1).toNat (j + 1) (by omega)
    rw [show ((0 : Nat) : Int) = 0 from rfl] at r0
    rw [bellwetherlaw20_NumberTurns.l0, if_pos (by omega), if_pos (by omega), if_pos (by omega), w64_step (by omega), r1, r2, r0, if_neg (by omega), if_neg (by omega), next_eq _ _ _ _ _ _ _ _ _ _ _ _ _ k (by omega), Option.bind_some, if_pos hp, if_pos (by omega), if_pos (by omega)]
    unfold nextN
    rw [if_pos no_bytes, next_step, if_pos rfl, apart_eq _ _ _ _ _ _ _ _ _ _ _ _ _ k (by omega), Option.bind_some, if_pos hp, apart_step _ _ _ (by omega), if_pos rfl, if_pos (by omega), apart_eq _ _ _ _ _ _ _ _ _ _ _ _ _ k (by omega), Option.bind_some, if_pos hp, show (first + 0) % c8 = (first + ((0 : Nat) : Int)) % c8 from rfl, apart_from _ _ _ (by omega), if_pos rfl]
    exact turns_l0 h first d k (j + 1) (by omega) (by omega)
theorem NumberTurns : Gn.NumberTurns.Pure := by
  intro c a _ _
  refine ⟨4000, ?_⟩
  unfold bellwetherlaw20_NumberTurns.f
  rw [ref_plain_eq _ _ _ _ _ _ _ _ _ _ _ 4000 (by omega), Option.bind_some]
  by_cases hp : plainE c.f0 c.f1 c.f2 c.f3 c.f4 c.f5 c.f6 c.f7 c.f8 c.f9 c.f10 = 0
  · have h := plain_iff.1 hp
    have hm := h.m
    have en : rowN (c.f8 + 1) = (c.f8 + 1).toNat := by unfold rowN; rw [if_neg (by omega), if_neg (by omega)]
    have hl : (rowV c.f8 a (c.f8 + 1).toNat).length = (c.f8 + 1).toNat := by simp [rowV]
    have r0 := rd_row c.f8 a (c.f8 + 1).toNat 0 (by omega)
    have r1 := rd_row c.f8 a (c.f8 + 1).toNat c.f8.toNat (by omega)
    have e : ((c.f8.toNat : Nat) : Int) = c.f8 := by omega
    rw [e, Int.add_emod_right] at r1
    rw [show ((0 : Nat) : Int) = 0 from rfl, Int.add_zero] at r0
    rw [if_pos hp, w64 (by omega), row_eq _ _ _ _ _ _ _ _ _ _ _ _ _ 4000 (by omega), Option.bind_some, if_pos hp, en, if_pos (by omega), if_pos (by omega), if_pos (by omega), if_pos (by omega), r0, r1, bne_self_eq_false, bellwetherlaw20_NumberTurns.j0, if_neg (by decide)]
    obtain ⟨E, hE⟩ := Int.eq_ofNat_of_zero_le (show 0 ≤ c.f8 by omega)
    exact turns_l0 h a E 3999 0 (by omega) (by omega)
  · rw [if_neg hp, known20 4000 (by omega)]
    rfl
end Go.Proofs.Ytjfcedhjmmnofaa.Pure
