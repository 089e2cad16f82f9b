import Derived.Test.YthmnlopmocjpaaaZStatusAgreesStmtStatusAgrees
import Derived.Test.YthmnlopmocjpaaaZStatusAgreesStatusFacts
namespace Go.Proofs.Ythmnlopmocjpaaa.Pure
open Go.RowKit Go.Proofs.Ythmnlopmocjpaaa.Gn Go.Proofs.YthmnlopmocjpaaaW.PrintWords Go.Proofs.YthmnlopmocjpaaaW.PrintLast Go.Proofs.Ythmnlopmocjpaaa.Facts Go.Proofs.Ythmnlopmocjpaaa.Opens
theorem agrees27_l0 (c : S24) (h : Plain c.f0 c.f1 c.f2 c.f3 c.f4 c.f5 c.f6 c.f7 c.f8 c.f9 c.f10) (hR : RightP c.f2 c.f3 c.f4 c.f5 c.f6 c.f7 c.f10.length) (x : List Int) (T : Int) (hT : T < c.f3) : ∀ (d k : Nat) (m : S30) (t S : Int), m.f8 ≥ 2 → t + d = T → 0 ≤ t → d + 800 ≤ k → t * (c.f4 - c.f5) ≤ S → S ≤ t * (c.f4 + c.f5) → (m.f0 - m.f1 - S) % 65536 = 0 → l27_StatusAgrees.l0 k x T t c.f0 c.f1 c.f2 c.f3 c.f4 c.f5 c.f6 c.f7 c.f8 c.f9 c.f10 m.f0 m.f1 m.f2 m.f3 m.f4 m.f5 m.f6 m.f7 m.f8 m.f9 m.f10 m.f11 m.f12 m.f13 m.f14 m.f15 m.f16 m.f17 m.f18.f0 m.f18.f1 m.f18.f2 m.f18.f3 m.f18.f4 m.f18.f5 = some true
  | 0, k, m, t, S, hm, hd, ht, hk, h1, h2, hc => by
    obtain ⟨k, rfl, _⟩ := peel (m := 799) (by omega)
    obtain rfl : t = T := by omega
    have hp := h.p
    have hr := h.r
    have hdr := h.dr
    have b := tick_bd _ _ _ _ _ _ _ _ _ _ _ h (t := t) ⟨by omega, by omega⟩
    have g3 := hR.2.2
    have up : t * (c.f4 + c.f5) ≤ c.f3 * (c.f4 + c.f5) := Int.mul_le_mul_of_nonneg_right (by omega) (by omega)
    have e : (m.f0 - m.f1) % 65536 = S := by omega
    have hpl := plain_iff.2 h
    rw [l27_StatusAgrees.l0, if_neg (by omega), rclear_eq _ _ _ _ _ _ _ _ _ _ _ _ k (by omega), Option.bind_some]
    cases hcl : clearV c.f0 c.f1 c.f2 c.f3 c.f4 c.f5 c.f6 c.f7 c.f8 c.f9 c.f10 t with
    | false =>
      rw [if_neg (by decide), known27 k (by omega)]
      rfl
    | true =>
      have hs := clear_same h (S := S) ⟨by omega, by omega⟩ ⟨h1, h2⟩ hcl
      rw [if_pos rfl, report_eq c m _ 0 [] (by simp) k (by omega), Option.bind_some, rnominal_eq _ _ _ _ _ _ _ _ _ _ _ _ k (by omega), Option.bind_some, repS_slot]
      unfold slotS nowV nominalV
      have hn : (0 ≤ t ∧ t ≤ 2000) ∧ plainE c.f0 c.f1 c.f2 c.f3 c.f4 c.f5 c.f6 c.f7 c.f8 c.f9 c.f10 = 0 := ⟨⟨by omega, by omega⟩, hpl⟩
      rw [e, if_pos hpl, if_pos hm, if_pos hpl, if_pos hn, if_pos hs, known27 k (by omega)]
      rfl
  | d + 1, k, m, t, S, hm, hd, ht, hk, h1, h2, hc => by
    obtain ⟨k, rfl, hk'⟩ := peel (m := d + 800) (by omega)
    have hp := h.p
    have hdr := h.dr
    have hrr := h.r
    have e1 : (t + 1) * (c.f4 - c.f5) = t * (c.f4 - c.f5) + (c.f4 - c.f5) := by rw [Int.add_mul, Int.one_mul]
    have e2 : (t + 1) * (c.f4 + c.f5) = t * (c.f4 + c.f5) + (c.f4 + c.f5) := by rw [Int.add_mul, Int.one_mul]
    have go : ∀ u, c.f4 - c.f5 ≤ u → u ≤ c.f4 + c.f5 → l27_StatusAgrees.l0 k x T (t + 1) c.f0 c.f1 c.f2 c.f3 c.f4 c.f5 c.f6 c.f7 c.f8 c.f9 c.f10 ((m.f0 + u) % 65536) m.f1 m.f2 m.f3 m.f4 m.f5 m.f6 m.f7 m.f8 m.f9 m.f10 m.f11 m.f12 m.f13 m.f14 m.f15 m.f16 m.f17 m.f18.f0 m.f18.f1 m.f18.f2 m.f18.f3 m.f18.f4 m.f18.f5 = some true := fun u u1 u2 =>
      agrees27_l0 c h hR x T hT d k { m with f0 := (m.f0 + u) % 65536 } (t + 1) (S + u) hm (by omega) (by omega) hk' (by omega) (by omega) (by show ((m.f0 + u) % 65536 - m.f1 - (S + u)) % 65536 = 0; omega)
    rw [l27_StatusAgrees.l0, if_pos (by omega)]
    by_cases g : t < (x.length : Int)
    · have q1 : c.f4 - c.f5 ≤ mx (wrap64 (c.f4 - c.f5)) (mn (rd x t) (wrap64 (c.f4 + c.f5))) ∧ mx (wrap64 (c.f4 - c.f5)) (mn (rd x t) (wrap64 (c.f4 + c.f5))) ≤ c.f4 + c.f5 := by
        rw [slow_w h, fast_w h]
        unfold mx mn
        refine ⟨?_, ?_⟩ <;> split <;> (try split) <;> (try split at *) <;> omega
      rw [if_pos g, if_pos ht, ref_add_eq, Option.bind_some, w64 (by omega)]
      exact go _ q1.1 q1.2
    · rw [if_neg g, ref_add_eq, Option.bind_some, w64 (by omega)]
      exact go _ (by omega) (by omega)
theorem StatusAgrees : Gn.StatusAgrees.Pure := by
  intro c m x t _ _ _ _
  refine ⟨3000, ?_⟩
  have hj : l27_StatusAgrees.j0 3000 x t true c.f0 c.f1 c.f2 c.f3 c.f4 c.f5 c.f6 c.f7 c.f8 c.f9 c.f10 m.f0 m.f1 m.f2 m.f3 m.f4 m.f5 m.f6 m.f7 m.f8 m.f9 m.f10 m.f11 m.f12 m.f13 m.f14 m.f15 m.f16 m.f17 m.f18.f0 m.f18.f1 m.f18.f2 m.f18.f3 m.f18.f4 m.f18.f5 = some true := by
    rw [l27_StatusAgrees.j0, if_pos rfl, known27 2999 (by omega)]
    rfl
  unfold l27_StatusAgrees.f
  rw [ref_right_eq _ _ _ _ _ _ _ _ _ _ _ 3000 (by omega), Option.bind_some]
  by_cases hr : rightE c.f0 c.f1 c.f2 c.f3 c.f4 c.f5 c.f6 c.f7 c.f8 c.f9 c.f10 = 0
  · rw [if_pos hr]
    by_cases h0 : t < 0
    · rw [if_pos h0]; exact hj
    rw [if_neg h0]
    by_cases h2 : t ≥ c.f3
    · rw [if_pos h2]; exact hj
    rw [if_neg h2]
    by_cases h3 : m.f8 < 2
    · rw [if_pos h3]; exact hj
    rw [if_neg h3]
    by_cases h4 : (m.f9.size : Int) > 100
    · rw [decide_eq_true h4]; exact hj
    rw [decide_eq_false h4, l27_StatusAgrees.j0, if_neg (by decide)]
    unfold rightE at hr
    by_cases hp : plainE c.f0 c.f1 c.f2 c.f3 c.f4 c.f5 c.f6 c.f7 c.f8 c.f9 c.f10 = 0
    · rw [if_pos hp] at hr
      by_cases hR : RightP c.f2 c.f3 c.f4 c.f5 c.f6 c.f7 c.f10.length
      · have h := plain_iff.1 hp
        have hpp := h.p
        obtain ⟨E, hE⟩ := Int.eq_ofNat_of_zero_le (show 0 ≤ t by omega)
        exact agrees27_l0 c h hR x t (by omega) E 2999 { m with f0 := m.f1 } 0 0 (by show m.f8 ≥ 2; omega) (by omega) (by omega) (by omega) (by omega) (by omega) (by show (m.f1 - m.f1 - 0) % 65536 = 0; omega)
      · rw [if_neg hR] at hr
        omega
    · rw [if_neg hp] at hr
      exact absurd hr hp
  · rw [if_neg hr]; exact hj
end Go.Proofs.Ythmnlopmocjpaaa.Pure
