import Derived.Test.YtjfcedhjmmnofaaZBoundClocksStmtBoundClocks
import Derived.Test.YtjfcedhjmmnofaaZBoundClocksRingFacts0
import Derived.Test.YtjfcedhjmmnofaaZBoundClocksConfFacts
import Derived.Test.YtjfcedhjmmnofaaZBoundClocksBoundFacts
import Derived.Test.YtjfcedhjmmnofaaZBoundClocksBoundKnown
namespace Go.Proofs.Ytjfcedhjmmnofaa.Pure
open Go.RowKit Go.Proofs.Ytjfcedhjmmnofaa.Gn Go.Proofs.YtjfcedhjmmnofaaW.PrintWords Go.Proofs.YtjfcedhjmmnofaaW.PrintLast Go.Proofs.Ytjfcedhjmmnofaa.Facts Go.Proofs.Ytjfcedhjmmnofaa.Opens
theorem units_ok {c0 c1 c2 c3 c4 c5 c6 c7 c8 c9 : Int} {l : List Int} (h : Plain c0 c1 c2 c3 c4 c5 c6 c7 c8 c9 l) (x : List Int) {t : Int} (ht : 0 ≤ t) : ∃ u, bellwetherlaw04_units.f c0 c1 c2 c3 c4 c5 c6 c7 c8 c9 l x t = some u ∧ c4 - c5 ≤ u ∧ u ≤ c4 + c5 := by
  have hd := h.dr
  unfold bellwetherlaw04_units.f
  by_cases g : t ≥ (x.length : Int)
  · rw [if_pos g]
    exact ⟨_, rfl, by omega, by omega⟩
  · rw [if_neg g, if_pos ht, if_pos (by omega), slow_w h, fast_w h]
    refine ⟨_, rfl, ?_, ?_⟩
    · unfold mx; split <;> omega
    · unfold mx mn; split <;> split at * <;> omega
theorem clocks_l1 {c0 c1 c2 c3 c4 c5 c6 c7 c8 c9 : Int} {l : List Int} (h : Plain c0 c1 c2 c3 c4 c5 c6 c7 c8 c9 l) (x : List Int) (m a : Int) (hm : 0 ≤ m ∧ m ≤ 975000) : ∀ (e k : Nat) (b t i : Int), i + e = c2 → 0 ≤ i → e + 20 ≤ k → 0 ≤ t → t + e < c3 → 0 ≤ b → b ≤ 1000000 + (4 - e) * 128 → a ≥ m → (∀ b', b + e * (c4 - c5) ≤ b' → b' ≤ b + e * (c4 + c5) → b' - m - c2 * c4 ≤ guardV c2 c4 c5 c6 c7 l.length ∧ b' - m - c2 * c4 ≥ -guardV c2 c4 c5 c6 c7 l.length) → bellwetherlaw04_BoundClocks.l1 k x m a b t i c0 c1 c2 c3 c4 c5 c6 c7 c8 c9 l = some true
  | 0, k, b, t, i, hi, hi0, hk, ht, hp, hb, hb2, ha, hh => by
    obtain ⟨k, rfl⟩ : ∃ n, k = n + 1 := ⟨k - 1, by omega⟩
    have hd := h.d
    have hr := h.r
    have gb := guard_bd h
    have b1 := mul_bd (x := c2) (y := c4) (a := 4) (b := 64) ⟨by omega, by omega⟩ ⟨by omega, by omega⟩
    obtain ⟨q1, q2⟩ := hh b (by omega) (by omega)
    rw [bellwetherlaw04_BoundClocks.l1, if_neg (by omega), guard_eq _ _ _ _ _ _ _ _ _ _ _ k (by omega), Option.bind_some, if_pos (plain_iff.2 h), if_pos ha, if_pos (by omega), w64 (a := b - m) (by omega), w64 (a := c2 * c4) (by omega), w64 (a := b - m - c2 * c4) (by omega), w64 (a := -guardV c2 c4 c5 c6 c7 l.length) (by omega), if_pos q1, if_pos q2, known04 k (by omega)]
    rfl
  | e + 1, k, b, t, i, hi, hi0, hk, ht, hp, hb, hb2, ha, hh => by
    obtain ⟨k, rfl⟩ : ∃ n, k = n + 1 := ⟨k - 1, by omega⟩
    have hd := h.d
    have hr := h.r
    have hdr := h.dr
    have hpp := h.p
    obtain ⟨u, hu, u1, u2⟩ := units_ok h x ht
    rw [bellwetherlaw04_BoundClocks.l1, if_pos (by omega), hu, Option.bind_some, w64 (a := b + u) (by omega), w64 (a := t + 1) (by omega), w64 (a := i + 1) (by omega)]
    refine clocks_l1 h x m a hm e k (b + u) (t + 1) (i + 1) (by omega) (by omega) (by omega) (by omega) (by omega) (by omega) (by omega) ha (fun b' x1 x2 => hh b' ?_ ?_)
    · rw [show ((e + 1 : Nat) : Int) * (c4 - c5) = e * (c4 - c5) + (c4 - c5) from by push_cast; rw [Int.add_mul, Int.one_mul]]; omega
    · rw [show ((e + 1 : Nat) : Int) * (c4 + c5) = e * (c4 + c5) + (c4 + c5) from by push_cast; rw [Int.add_mul, Int.one_mul]]; omega
/-- What holds at each round of the first loop. -/
structure Run (s f d m a b t : Int) : Prop where
  a1 : s * t ≤ a
  b1 : s * t ≤ b
  up : b - a ≤ 2 * (d * t)
  dn : a - b ≤ 2 * (d * t)
  ini : (t = 0 ∧ a = 0 ∧ b = 0) ∨ (s * t - s < m ∧ a ≤ m - 1 + f ∧ b ≤ m - 1 + 2 * (d * t) - 2 * d + f)
theorem clocks_end {c0 c1 c2 c3 c4 c5 c6 c7 c8 c9 : Int} {l : List Int} (h : Plain c0 c1 c2 c3 c4 c5 c6 c7 c8 c9 l) (hR : RightP c2 c3 c4 c5 c6 c7 l.length) (x : List Int) {m a b t : Int} (hm : 0 ≤ m ∧ m ≤ middleV c6 c7 (l.length - 1)) (ht : 0 ≤ t) (hI : Run (c4 - c5) (c4 + c5) c5 m a b t) (ha : a ≥ m) (k : Nat) (hk : 40 ≤ k) : bellwetherlaw04_BoundClocks.l1 k x m a b t 0 c0 c1 c2 c3 c4 c5 c6 c7 c8 c9 l = some true := by
  have hd := h.d
  have hr := h.r
  have hdr := h.dr
  have hpp := h.p
  have hp0 := h.p0
  have ml := middle_bd h (last_i h)
  have gb := guard_bd h
  obtain ⟨g1, g2, g3⟩ := hR
  have ab := apart_bd h
  have b2 : 0 ≤ c2 * c5 := Int.mul_nonneg (by omega) (by omega)
  have e1 : (c2 + 1) * c5 = c2 * c5 + c5 := by rw [Int.add_mul, Int.one_mul]
  have e2 : c2 * (c4 - c5) = c2 * c4 - c2 * c5 := Int.mul_sub ..
  have e3 : c2 * (c4 + c5) = c2 * c4 + c2 * c5 := Int.mul_add ..
  obtain ⟨E, hE⟩ := Int.eq_ofNat_of_zero_le (show 0 ≤ c2 by omega)
  have q0 : 0 ≤ (2 * c5 * middleV c6 c7 (l.length - 1) + (c4 - c5) - 1) / (c4 - c5) := Int.ediv_nonneg (by omega) (by omega)
  obtain ⟨a1, b1, up, dn, ini⟩ := hI
  rcases ini with ⟨rfl, rfl, rfl⟩ | ⟨i1, i2, i3⟩
  · refine clocks_l1 h x m 0 ⟨hm.1, by omega⟩ E k 0 0 0 (by omega) (by omega) (by omega) (by omega) (by omega) (by omega) (by omega) (by omega) (fun b' x1 x2 => ?_)
    rw [← hE, e2] at x1
    rw [← hE, e3] at x2
    unfold guardV
    omega
  · have pr : 2 * (c5 * t) - 2 * c5 ≤ (2 * c5 * middleV c6 c7 (l.length - 1) + (c4 - c5) - 1) / (c4 - c5) := by
      refine Int.le_ediv_of_mul_le (by omega) ?_
      have : 2 * c5 * ((c4 - c5) * t - (c4 - c5)) ≤ 2 * c5 * middleV c6 c7 (l.length - 1) := Int.mul_le_mul_of_nonneg_left (by omega) (by omega)
      have e : (2 * (c5 * t) - 2 * c5) * (c4 - c5) = 2 * c5 * ((c4 - c5) * t - (c4 - c5)) := by
        simp only [Int.sub_mul, Int.mul_sub, Int.mul_assoc, Int.mul_comm, Int.mul_left_comm]
      omega
    have dt : 0 ≤ c5 * t := Int.mul_nonneg (by omega) ht
    have gd : guardV c2 c4 c5 c6 c7 l.length = (2 * c5 * middleV c6 c7 (l.length - 1) + (c4 - c5) - 1) / (c4 - c5) + c4 + (c2 + 1) * c5 := rfl
    have gp : c4 + c5 ≤ guardV c2 c4 c5 c6 c7 l.length := by omega
    have tp : t + c2 < c3 := by
      by_cases e : t + c2 < c3
      · exact e
      · have : (c4 - c5) * (c3 - 1) ≤ (c4 - c5) * (t + c2 - 1) := Int.mul_le_mul_of_nonneg_left (by omega) (by omega)
        rw [Int.mul_comm (c4 - c5) (c3 - 1), show (c4 - c5) * (t + c2 - 1) = (c4 - c5) * t + c2 * (c4 - c5) - (c4 - c5) from by rw [Int.mul_sub, Int.mul_add, Int.mul_one, Int.mul_comm (c4 - c5) c2]] at this
        omega
    have bb : 0 ≤ b := by
      have : 0 ≤ (c4 - c5) * t := Int.mul_nonneg (by omega) ht
      omega
    have bt : b ≤ 1000000 := by
      have bf : b ≤ m - 1 + (2 * (c5 * t) - 2 * c5) + (c4 + c5) := by omega
      have : guardV c2 c4 c5 c6 c7 l.length * 2 < c7 := by omega
      have := h.s
      omega
    refine clocks_l1 h x m a ⟨hm.1, by omega⟩ E k b t 0 (by omega) (by omega) (by omega) ht (by omega) bb (by omega) ha (fun b' x1 x2 => ?_)
    rw [← hE, e2] at x1
    rw [← hE, e3] at x2
    rw [gd]
    omega
theorem clocks_l0 {c0 c1 c2 c3 c4 c5 c6 c7 c8 c9 : Int} {l : List Int} (h : Plain c0 c1 c2 c3 c4 c5 c6 c7 c8 c9 l) (hR : RightP c2 c3 c4 c5 c6 c7 l.length) (x y : List Int) {m : Int} (hm : 0 ≤ m ∧ m ≤ middleV c6 c7 (l.length - 1)) : ∀ (e k : Nat) (a b t : Int), t + e = c3 → 2 * e + 60 ≤ k → 0 ≤ t → Run (c4 - c5) (c4 + c5) c5 m a b t → bellwetherlaw04_BoundClocks.l0 k x y m a b t c0 c1 c2 c3 c4 c5 c6 c7 c8 c9 l = some true := by
  intro e
  induction e with
  | zero =>
    intro k a b t he hk ht hI
    obtain ⟨k, rfl⟩ : ∃ n, k = n + 2 := ⟨k - 2, by omega⟩
    have a1 := hI.a1
    have hr := h.r
    have hdr := h.dr
    have hd := h.d
    have gb := guard_bd h
    have b1 := mul_bd (x := c2) (y := c4) (a := 4) (b := 64) ⟨by omega, by omega⟩ ⟨by omega, by omega⟩
    have g2 := hR.2.1
    have e2 : (c4 - c5) * t = (c3 - 1) * (c4 - c5) + (c4 - c5) := by rw [show t = c3 from by omega, Int.mul_comm (c4 - c5) c3, Int.sub_mul c3 1 (c4 - c5), Int.one_mul]; omega
    rw [bellwetherlaw04_BoundClocks.l0, if_neg (by omega), bellwetherlaw04_BoundClocks.j2, if_neg (by decide)]
    exact clocks_end h hR y hm ht hI (by omega) k (by omega)
  | succ e ih =>
    intro k a b t he hk ht hI
    obtain ⟨k, rfl⟩ : ∃ n, k = n + 2 := ⟨k - 2, by omega⟩
    rw [bellwetherlaw04_BoundClocks.l0]
    by_cases ha : a < m
    · obtain ⟨u, hu, u1, u2⟩ := units_ok h x ht
      obtain ⟨v, hv, v1, v2⟩ := units_ok h y ht
      obtain ⟨a1, b1, up, dn, ini⟩ := hI
      have hr := h.r
      have hdr := h.dr
      have hpp := h.p
      have ml := middle_bd h (last_i h)
      have st : 0 ≤ (c4 - c5) * t := Int.mul_nonneg (by omega) ht
      have dt := mul_bd (x := c5) (y := t) (a := 64) (b := 400) ⟨by omega, by omega⟩ ⟨by omega, by omega⟩
      rw [if_pos ha, decide_eq_true (show t < c3 by omega), bellwetherlaw04_BoundClocks.j2, if_pos rfl, hu, Option.bind_some, hv, Option.bind_some, w64 (a := a + u) (by omega), w64 (a := b + v) (by omega), w64 (a := t + 1) (by omega)]
      refine ih k (a + u) (b + v) (t + 1) (by omega) (by omega) (by omega) ?_
      have es : (c4 - c5) * (t + 1) = (c4 - c5) * t + (c4 - c5) := by rw [Int.mul_add, Int.mul_one]
      have ed : c5 * (t + 1) = c5 * t + c5 := by rw [Int.mul_add, Int.mul_one]
      refine ⟨?_, ?_, ?_, ?_, Or.inr ⟨?_, ?_, ?_⟩⟩ <;> (try rw [es]) <;> (try rw [ed]) <;> omega
    · rw [if_neg ha, bellwetherlaw04_BoundClocks.j2, if_neg (by decide)]
      exact clocks_end h hR y hm ht hI (by omega) k (by omega)
theorem clocks_known (c0 c1 c2 c3 c4 c5 c6 c7 c8 c9 : Int) (l : List Int) (a : Int) (x y : List Int) : bellwetherlaw04_BoundClocks.j0 1000 a x y true c0 c1 c2 c3 c4 c5 c6 c7 c8 c9 l = some true := by
  rw [bellwetherlaw04_BoundClocks.j0, if_pos rfl, known04 999 (by omega)]
  rfl
theorem BoundClocks : Gn.BoundClocks.Pure := by
  intro c a x y _ _ _ _
  refine ⟨1000, ?_⟩
  unfold bellwetherlaw04_BoundClocks.f
  rw [right_eq _ _ _ _ _ _ _ _ _ _ _ 1000 (by omega), Option.bind_some]
  by_cases hr : rightE c.f0 c.f1 c.f2 c.f3 c.f4 c.f5 c.f6 c.f7 c.f8 c.f9 c.f10 = 0
  · rw [if_pos hr]
    by_cases h0 : a < 0
    · rw [if_pos h0]; exact clocks_known _ _ _ _ _ _ _ _ _ _ _ _ _ _
    rw [if_neg h0]
    by_cases h2 : a ≥ (c.f10.length : Int)
    · rw [decide_eq_true h2]; exact clocks_known _ _ _ _ _ _ _ _ _ _ _ _ _ _
    rw [decide_eq_false h2]
    unfold rightE at hr
    by_cases hp : plainE c.f0 c.f1 c.f2 c.f3 c.f4 c.f5 c.f6 c.f7 c.f8 c.f9 c.f10 = 0
    · rw [if_pos hp] at hr
      by_cases hR : RightP c.f2 c.f3 c.f4 c.f5 c.f6 c.f7 c.f10.length
      · have h := plain_iff.1 hp
        have mb := middle_bd h (i := a) ⟨by omega, by omega⟩
        have hs := h.s
        have hpp := h.p0
        have hp4 := h.p
        have : a * c.f7 ≤ ((c.f10.length : Int) - 1) * c.f7 := Int.mul_le_mul_of_nonneg_right (by omega) (by omega)
        rw [bellwetherlaw04_BoundClocks.j0, if_neg (by decide), middle_eq _ _ _ _ _ _ _ _ _ _ _ 999 (by omega), Option.bind_some, if_pos ⟨hp, by omega, by omega⟩]
        obtain ⟨E, hE⟩ := Int.eq_ofNat_of_zero_le (show 0 ≤ c.f3 by omega)
        refine clocks_l0 h hR x y ⟨mb.1, by unfold middleV; omega⟩ E 999 0 0 0 (by omega) (by omega) (by omega) ⟨?_, ?_, ?_, ?_, Or.inl ⟨rfl, rfl, rfl⟩⟩ <;> simp
      · rw [if_neg hR] at hr
        omega
    · rw [if_neg hp] at hr
      exact absurd hr hp
  · rw [if_neg hr]; exact clocks_known _ _ _ _ _ _ _ _ _ _ _ _ _ _
end Go.Proofs.Ytjfcedhjmmnofaa.Pure
