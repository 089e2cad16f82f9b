import Derived.Test.YtdcknaoamjlaiaaZSlotAgreesStmtSlotAgrees
import Derived.Test.YtdcknaoamjlaiaaZSlotAgreesSlotClocks
namespace Go.Proofs.Ytdcknaoamjlaiaa.Pure
open Go.RowKit Go.Proofs.Ytdcknaoamjlaiaa.Gn Go.Proofs.YtdcknaoamjlaiaaW.PrintWords Go.Proofs.YtdcknaoamjlaiaaW.PrintLast Go.Proofs.Ytdcknaoamjlaiaa.Facts Go.Proofs.Ytdcknaoamjlaiaa.Opens
theorem units22_ok {c0 c1 c2 c3 c4 c5 c6 c7 c8 c9 : Int} {l : List Int} (h : Plain c0 c1 c2 c3 c4 c5 c6 c7 c8 c9 l) (x : List Int) {t : Int} (ht : 0 ≤ t) : ∃ u, bellwetherlaw22_units.f c0 c1 c2 c3 c4 c5 c6 c7 c8 c9 l x t = some u ∧ c4 - c5 ≤ u ∧ u ≤ c4 + c5 := by
  have hd := h.dr
  unfold bellwetherlaw22_units.f
  by_cases g : t ≥ (x.length : Int)
  · rw [if_pos g]
    exact ⟨_, rfl, by omega, by omega⟩
  · rw [if_neg g, if_pos ht, if_pos (by omega), slow_w h, fast_w h]
    refine ⟨_, rfl, ?_, ?_⟩
    · unfold mx; split <;> omega
    · unfold mx mn; split <;> split at * <;> omega
theorem agrees_l0 {c0 c1 c2 c3 c4 c5 c6 c7 c8 c9 : Int} {l : List Int} (h : Plain c0 c1 c2 c3 c4 c5 c6 c7 c8 c9 l) (hR : RightP c2 c3 c4 c5 c6 c7 l.length) (anchor : Int) (x : List Int) (T : Int) (hT : T < c3) : ∀ (d k : Nat) (t clock S : Int), t + d = T → 0 ≤ t → d + 400 ≤ k → t * (c4 - c5) ≤ S → S ≤ t * (c4 + c5) → (clock - anchor - S) % 65536 = 0 → bellwetherlaw22_SlotAgrees.l0 k anchor x T clock t c0 c1 c2 c3 c4 c5 c6 c7 c8 c9 l = some true
  | 0, k, t, clock, S, hd, ht, hk, h1, h2, hc => by
    obtain ⟨k, rfl, _⟩ := peel (m := 399) (by omega)
    obtain rfl : t = T := by omega
    have hp := h.p
    have hr := h.r
    have hdr := h.dr
    have b := tick_bd _ _ _ _ _ _ _ _ _ _ _ h (t := t) ⟨by omega, by omega⟩
    have g3 := hR.2.2
    have up : t * (c4 + c5) ≤ c3 * (c4 + c5) := Int.mul_le_mul_of_nonneg_right (by omega) (by omega)
    have e : (clock - anchor) % 65536 = S := by omega
    have hpl := plain_iff.2 h
    rw [bellwetherlaw22_SlotAgrees.l0, if_neg (by omega), clear_eq _ _ _ _ _ _ _ _ _ _ _ _ k (by omega), Option.bind_some]
    cases hcl : clearV c0 c1 c2 c3 c4 c5 c6 c7 c8 c9 l t with
    | false =>
      rw [if_neg (by decide), known22 k (by omega)]
      rfl
    | true =>
      have hs := clear_same h (S := S) ⟨by omega, by omega⟩ ⟨h1, h2⟩ hcl
      rw [if_pos rfl, now_eq _ _ _ _ _ _ _ _ _ _ _ _ _ k (by omega), Option.bind_some, nominal_eq _ _ _ _ _ _ _ _ _ _ _ _ k (by omega), Option.bind_some, e]
      unfold nowV nominalV
      have hn : (0 ≤ t ∧ t ≤ 2000) ∧ plainE c0 c1 c2 c3 c4 c5 c6 c7 c8 c9 l = 0 := ⟨⟨by omega, by omega⟩, hpl⟩
      rw [if_pos hpl, if_pos hn, if_pos hs, known22 k (by omega)]
      rfl
  | d + 1, k, t, clock, S, hd, ht, hk, h1, h2, hc => by
    obtain ⟨k, rfl, hk'⟩ := peel (m := d + 400) (by omega)
    obtain ⟨u, hu, u1, u2⟩ := units22_ok h x ht
    have hp := h.p
    have e1 : (t + 1) * (c4 - c5) = t * (c4 - c5) + (c4 - c5) := by rw [Int.add_mul, Int.one_mul]
    have e2 : (t + 1) * (c4 + c5) = t * (c4 + c5) + (c4 + c5) := by rw [Int.add_mul, Int.one_mul]
    rw [bellwetherlaw22_SlotAgrees.l0, if_pos (by omega), hu, Option.bind_some, ref_add_eq, Option.bind_some, w64 (by omega)]
    exact agrees_l0 h hR anchor x T hT d k (t + 1) ((clock + u) % 65536) (S + u) (by omega) (by omega) hk' (by omega) (by omega) (by omega)
theorem SlotAgrees : Gn.SlotAgrees.Pure := by
  intro c a x t _ _ _ _
  refine ⟨3000, ?_⟩
  have hj : bellwetherlaw22_SlotAgrees.j0 3000 a x t true c.f0 c.f1 c.f2 c.f3 c.f4 c.f5 c.f6 c.f7 c.f8 c.f9 c.f10 = some true := by
    rw [bellwetherlaw22_SlotAgrees.j0, if_pos rfl, known22 2999 (by omega)]
    rfl
  unfold bellwetherlaw22_SlotAgrees.f
  rw [ref_right_eq _ _ _ _ _ _ _ _ _ _ _ 3000 (by omega), Option.bind_some]
  by_cases hr : rightE c.f0 c.f1 c.f2 c.f3 c.f4 c.f5 c.f6 c.f7 c.f8 c.f9 c.f10 = 0
  · rw [if_pos hr]
    by_cases h0 : t < 0
    · rw [if_pos h0]; exact hj
    rw [if_neg h0]
    by_cases h2 : t ≥ c.f3
    · rw [decide_eq_true h2]; exact hj
    rw [decide_eq_false h2, bellwetherlaw22_SlotAgrees.j0, if_neg (by decide)]
    unfold rightE at hr
    by_cases hp : plainE c.f0 c.f1 c.f2 c.f3 c.f4 c.f5 c.f6 c.f7 c.f8 c.f9 c.f10 = 0
    · rw [if_pos hp] at hr
      by_cases hR : RightP c.f2 c.f3 c.f4 c.f5 c.f6 c.f7 c.f10.length
      · have h := plain_iff.1 hp
        have hpp := h.p
        obtain ⟨E, hE⟩ := Int.eq_ofNat_of_zero_le (show 0 ≤ t by omega)
        exact agrees_l0 h hR a x t (by omega) E 2999 0 a 0 (by omega) (by omega) (by omega) (by omega) (by omega) (by omega)
      · rw [if_neg hR] at hr
        omega
    · rw [if_neg hp] at hr
      exact absurd hr hp
  · rw [if_neg hr]; exact hj
end Go.Proofs.Ytdcknaoamjlaiaa.Pure
