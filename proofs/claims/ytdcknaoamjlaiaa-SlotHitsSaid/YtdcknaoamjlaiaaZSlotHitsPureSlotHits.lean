import Derived.Test.YtdcknaoamjlaiaaZSlotHitsStmtSlotHits
import Derived.Test.YtdcknaoamjlaiaaZSlotHitsSlotClocks
namespace Go.Proofs.Ytdcknaoamjlaiaa.Pure
open Go.RowKit Go.Proofs.Ytdcknaoamjlaiaa.Gn Go.Proofs.YtdcknaoamjlaiaaW.PrintWords Go.Proofs.YtdcknaoamjlaiaaW.PrintLast Go.Proofs.Ytdcknaoamjlaiaa.Facts Go.Proofs.Ytdcknaoamjlaiaa.Opens
theorem units22_in {c0 c1 c2 c3 c4 c5 c6 c7 c8 c9 : Int} {l : List Int} (h : Plain c0 c1 c2 c3 c4 c5 c6 c7 c8 c9 l) (x : List Int) {t : Int} (ht : 0 ≤ t) : ∃ u, bellwetherlaw22_units.f c0 c1 c2 c3 c4 c5 c6 c7 c8 c9 l x t = some u ∧ c4 - c5 ≤ u ∧ u ≤ c4 + c5 := by
  have hd := h.dr
  unfold bellwetherlaw22_units.f
  by_cases g : t ≥ (x.length : Int)
  · rw [if_pos g]
    exact ⟨_, rfl, by omega, by omega⟩
  · rw [if_neg g, if_pos ht, if_pos (by omega), slow_w h, fast_w h]
    refine ⟨_, rfl, ?_, ?_⟩
    · unfold mx; split <;> omega
    · unfold mx mn; split <;> split at * <;> omega
theorem hits_l1 {c0 c1 c2 c3 c4 c5 c6 c7 c8 c9 : Int} {l : List Int} (h : Plain c0 c1 c2 c3 c4 c5 c6 c7 c8 c9 l) (hR : RightP c2 c3 c4 c5 c6 c7 l.length) (n : Nat) (hn : n < l.length) (A B : Int) (x y : List Int) : ∀ (d k : Nat) (b t i S : Int), i + d = c2 → 0 ≤ i → d + 400 ≤ k → 0 ≤ t → t + d < c3 → 0 ≤ S → S + d * (c4 + c5) ≤ 40000 → (b - B - S) % 65536 = 0 → (∀ b', S + d * (c4 - c5) ≤ b' → b' ≤ S + d * (c4 + c5) → middleV c6 c7 (n : Int) + c2 * c4 - guardV c2 c4 c5 c6 c7 l.length ≤ b' ∧ b' ≤ middleV c6 c7 (n : Int) + c2 * c4 + guardV c2 c4 c5 c6 c7 l.length) → bellwetherlaw22_SlotHits.l1 k (n : Int) b t i c0 c1 c2 c3 c4 c5 c6 c7 c8 c9 l A B x y = some true
  | 0, k, b, t, i, S, hi, hi0, hk, ht, hp, hS, hS2, hb, hh => by
    obtain ⟨k, rfl, _⟩ := peel (m := 399) (by omega)
    have h7 := h.s
    have hpl := plain_iff.2 h
    have g := hh S (by omega) (by omega)
    have e : (b - B) % 65536 = S := by omega
    have ho := hit_one (e := S) (i := n) (by omega) hR.1 g l.length 0 (by omega) (by omega)
    rw [bellwetherlaw22_SlotHits.l1, if_neg (by omega), window_eq _ _ _ _ _ _ _ _ _ _ _ _ k (by omega), Option.bind_some, elapsed_eq, Option.bind_some, e, if_pos (by omega)]
    unfold windowV
    have hc : plainE c0 c1 c2 c3 c4 c5 c6 c7 c8 c9 l = 0 ∧ 0 ≤ (n : Int) ∧ (n : Int) < l.length := ⟨hpl, by omega, by omega⟩
    have g1 : lowV c2 c4 c5 c6 c7 l (n : Int) ≤ S := g.1
    have g2 : S ≤ highV c2 c4 c5 c6 c7 l (n : Int) := g.2
    rw [if_pos hc, if_pos g1, if_pos g2, hit_eq _ _ _ _ _ _ _ _ _ _ _ _ k (by omega), Option.bind_some, if_pos hpl, ho, if_pos rfl, known22 k (by omega)]
    rfl
  | d + 1, k, b, t, i, S, hi, hi0, hk, ht, hp, hS, hS2, hb, hh => by
    obtain ⟨k, rfl, hk'⟩ := peel (m := d + 400) (by omega)
    obtain ⟨u, hu, u1, u2⟩ := units22_in h y ht
    have hd := h.d
    have hr := h.r
    have hdr := h.dr
    have hpp := h.p
    have e1 : ((d + 1 : Nat) : Int) * (c4 - c5) = d * (c4 - c5) + (c4 - c5) := by push_cast; rw [Int.add_mul, Int.one_mul]
    have e2 : ((d + 1 : Nat) : Int) * (c4 + c5) = d * (c4 + c5) + (c4 + c5) := by push_cast; rw [Int.add_mul, Int.one_mul]
    rw [e2] at hS2
    rw [bellwetherlaw22_SlotHits.l1, if_pos (by omega), hu, Option.bind_some, ref_add_eq, Option.bind_some, w64 (a := t + 1) (by omega), w64 (a := i + 1) (by omega)]
    exact hits_l1 h hR n hn A B x y d k ((b + u) % 65536) (t + 1) (i + 1) (S + u) (by omega) (by omega) hk' (by omega) (by omega) (by omega) (by omega) (by omega) (fun b' x1 x2 => hh b' (by omega) (by omega))
theorem hits_end {c0 c1 c2 c3 c4 c5 c6 c7 c8 c9 : Int} {l : List Int} (h : Plain c0 c1 c2 c3 c4 c5 c6 c7 c8 c9 l) (hR : RightP c2 c3 c4 c5 c6 c7 l.length) (n : Nat) (hn : n < l.length) (A B : Int) (x y : List Int) {sa sb b t : Int} (ht : 0 ≤ t) (hI : Run (c4 - c5) (c4 + c5) c5 (middleV c6 c7 (n : Int)) sa sb t) (ha : sa ≥ middleV c6 c7 (n : Int)) (hb : (b - B - sb) % 65536 = 0) (k : Nat) (hk : 500 ≤ k) : bellwetherlaw22_SlotHits.l1 k (n : Int) b t 0 c0 c1 c2 c3 c4 c5 c6 c7 c8 c9 l A B x y = some true := by
  have hd := h.d
  have hr := h.r
  have hdr := h.dr
  have hpp := h.p
  have h7 := h.s
  have mb := middle_bd h (i := (n : Int)) ⟨by omega, by omega⟩
  have ml : middleV c6 c7 (n : Int) ≤ middleV c6 c7 (l.length - 1) := by
    have := Int.mul_le_mul_of_nonneg_right (show (n : Int) ≤ (l.length : Int) - 1 by omega) (show 0 ≤ c7 by omega)
    unfold middleV
    omega
  obtain ⟨tp, hh⟩ := hI.heard h hR ⟨mb.1, ml⟩ ht ha
  have g3 := hR.2.2
  have up : (t + c2) * (c4 + c5) ≤ c3 * (c4 + c5) := Int.mul_le_mul_of_nonneg_right (by omega) (by omega)
  have e0 : (t + c2) * (c4 + c5) = (c4 + c5) * t + c2 * (c4 + c5) := by rw [Int.add_mul, Int.mul_comm t]
  have s0 : 0 ≤ (c4 - c5) * t := Int.mul_nonneg (by omega) ht
  have b2 := hI.b2
  have b1 := hI.b1
  obtain ⟨E, hE⟩ := Int.eq_ofNat_of_zero_le (show 0 ≤ c2 by omega)
  exact hits_l1 h hR n hn A B x y E k b t 0 sb (by omega) (by omega) (by omega) ht (by omega) (by omega) (by rw [← hE]; omega) hb (fun b' x1 x2 => hh b' (by rw [hE]; exact x1) (by rw [hE]; exact x2))
theorem hits_l0 {c0 c1 c2 c3 c4 c5 c6 c7 c8 c9 : Int} {l : List Int} (h : Plain c0 c1 c2 c3 c4 c5 c6 c7 c8 c9 l) (hR : RightP c2 c3 c4 c5 c6 c7 l.length) (n : Nat) (hn : n < l.length) (A B : Int) (x y : List Int) : ∀ (d k : Nat) (a b t sa sb : Int), t + d = c3 → 0 ≤ t → 2 * d + 800 ≤ k → (a - A - sa) % 65536 = 0 → (b - B - sb) % 65536 = 0 → Run (c4 - c5) (c4 + c5) c5 (middleV c6 c7 (n : Int)) sa sb t → bellwetherlaw22_SlotHits.l0 k (n : Int) a b t c0 c1 c2 c3 c4 c5 c6 c7 c8 c9 l A B x y = some true
  | 0, k, a, b, t, sa, sb, hd, ht, hk, ea, eb, hI => by
    obtain ⟨k, rfl, _⟩ := peel (m := 799) (by omega)
    obtain ⟨k, rfl, _⟩ := peel (m := 798) (by omega)
    have a1 := hI.a1
    have hr := h.r
    have hdr := h.dr
    have hd := h.d
    have gb := guard_bd h
    have h7 := h.s
    have b1 := mul_bd (x := c2) (y := c4) (a := 4) (b := 64) ⟨by omega, by omega⟩ ⟨by omega, by omega⟩
    have g2 := hR.2.1
    have ml : middleV c6 c7 (n : Int) ≤ middleV c6 c7 (l.length - 1) := by
      have := Int.mul_le_mul_of_nonneg_right (show (n : Int) ≤ (l.length : Int) - 1 by omega) (show 0 ≤ c7 by omega)
      unfold middleV
      omega
    have e2 : (c4 - c5) * t = (c3 - 1) * (c4 - c5) + (c4 - c5) := by rw [show t = c3 from by omega, Int.mul_comm (c4 - c5) c3, Int.sub_mul c3 1 (c4 - c5), Int.one_mul]; omega
    rw [bellwetherlaw22_SlotHits.l0, if_neg (by omega), bellwetherlaw22_SlotHits.j2, if_neg (by decide)]
    exact hits_end h hR n hn A B x y ht hI (by omega) eb k (by omega)
  | d + 1, k, a, b, t, sa, sb, hd, ht, hk, ea, eb, hI => by
    obtain ⟨k, rfl, hk1⟩ := peel (m := 2 * d + 801) (by omega)
    obtain ⟨k, rfl, hk2⟩ := peel (m := 2 * d + 800) (by omega)
    have hr := h.r
    have hdr := h.dr
    have hpp := h.p
    have hpl := plain_iff.2 h
    have g3 := hR.2.2
    have up : (c4 + c5) * t ≤ (c4 + c5) * c3 := Int.mul_le_mul_of_nonneg_left (by omega) (by omega)
    rw [Int.mul_comm (c4 + c5) c3] at up
    have s0 : 0 ≤ (c4 - c5) * t := Int.mul_nonneg (by omega) ht
    have a1 := hI.a1
    have a2 := hI.a2
    have e : (a - A) % 65536 = sa := by omega
    rw [bellwetherlaw22_SlotHits.l0, if_pos (by omega), elapsed_eq, Option.bind_some, e, ref_middle_eq _ _ _ _ _ _ _ _ _ _ _ (k + 1) (by omega), Option.bind_some, if_pos ⟨hpl, by omega, by omega⟩]
    by_cases ha : sa < middleV c6 c7 (n : Int)
    · obtain ⟨u, hu, u1, u2⟩ := units22_in h x ht
      obtain ⟨v, hv, v1, v2⟩ := units22_in h y ht
      rw [decide_eq_true ha, bellwetherlaw22_SlotHits.j2, if_pos rfl, hu, Option.bind_some, ref_add_eq, Option.bind_some, hv, Option.bind_some, ref_add_eq, Option.bind_some, w64 (by omega)]
      exact hits_l0 h hR n hn A B x y d k _ _ (t + 1) (sa + u) (sb + v) (by omega) (by omega) (by omega) (by omega) (by omega) (hI.step (by omega) (by omega) (by omega) ha ⟨u1, u2⟩ ⟨v1, v2⟩ ht)
    · rw [decide_eq_false ha, bellwetherlaw22_SlotHits.j2, if_neg (by decide)]
      exact hits_end h hR n hn A B x y ht hI (by omega) eb k (by omega)
theorem SlotHits : Gn.SlotHits.Pure := by
  intro c n p _ _ _
  refine ⟨3000, ?_⟩
  have hj : bellwetherlaw22_SlotHits.j0 3000 n true c.f0 c.f1 c.f2 c.f3 c.f4 c.f5 c.f6 c.f7 c.f8 c.f9 c.f10 p.f0 p.f1 p.f2 p.f3 = some true := by
    rw [bellwetherlaw22_SlotHits.j0, if_pos rfl, known22 2999 (by omega)]
    rfl
  unfold bellwetherlaw22_SlotHits.f
  rw [ref_right_eq _ _ _ _ _ _ _ _ _ _ _ 3000 (by omega), Option.bind_some]
  by_cases hr : rightE c.f0 c.f1 c.f2 c.f3 c.f4 c.f5 c.f6 c.f7 c.f8 c.f9 c.f10 = 0
  · rw [if_pos hr]
    by_cases h0 : n < 0
    · rw [if_pos h0]; exact hj
    rw [if_neg h0]
    by_cases h2 : n ≥ (c.f10.length : Int)
    · rw [decide_eq_true h2]; exact hj
    rw [decide_eq_false h2, bellwetherlaw22_SlotHits.j0, if_neg (by decide)]
    unfold rightE at hr
    by_cases hp : plainE c.f0 c.f1 c.f2 c.f3 c.f4 c.f5 c.f6 c.f7 c.f8 c.f9 c.f10 = 0
    · rw [if_pos hp] at hr
      by_cases hR : RightP c.f2 c.f3 c.f4 c.f5 c.f6 c.f7 c.f10.length
      · have h := plain_iff.1 hp
        have hpp := h.p
        have hp0 := h.p0
        obtain ⟨m, rfl⟩ := Int.eq_ofNat_of_zero_le (show 0 ≤ n by omega)
        obtain ⟨E, hE⟩ := Int.eq_ofNat_of_zero_le (show 0 ≤ c.f3 by omega)
        exact hits_l0 h hR m (by omega) p.f0 p.f1 p.f2 p.f3 E 2999 p.f0 p.f1 0 0 0 (by omega) (by omega) (by omega) (by omega) (by omega) ⟨by simp, by simp, by simp, by simp, by simp, by simp, Or.inl ⟨rfl, rfl, rfl⟩⟩
      · rw [if_neg hR] at hr
        omega
    · rw [if_neg hp] at hr
      exact absurd hr hp
  · rw [if_neg hr]; exact hj
end Go.Proofs.Ytdcknaoamjlaiaa.Pure
