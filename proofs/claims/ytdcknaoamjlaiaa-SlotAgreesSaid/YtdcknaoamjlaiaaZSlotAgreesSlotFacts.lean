import Derived.Test.YtdcknaoamjlaiaaZSlotAgreesGn25
import Derived.Test.YtdcknaoamjlaiaaZSlotAgreesGn26
import Derived.Test.YtdcknaoamjlaiaaZSlotAgreesGn0
import Derived.Test.YtdcknaoamjlaiaaZSlotAgreesGn2
import Derived.Test.YtdcknaoamjlaiaaZSlotAgreesGn38
import Derived.Test.YtdcknaoamjlaiaaZSlotAgreesGn39
import Derived.Test.YtdcknaoamjlaiaaZSlotAgreesGn34
import Derived.Test.YtdcknaoamjlaiaaZSlotAgreesGn57
import Derived.Test.YtdcknaoamjlaiaaZSlotAgreesGn58
import Derived.Test.YtdcknaoamjlaiaaZSlotAgreesGn60
import Derived.Test.YtdcknaoamjlaiaaZSlotAgreesGn62
import Derived.Test.YtdcknaoamjlaiaaZSlotAgreesGn63
import Derived.Test.YtdcknaoamjlaiaaZSlotAgreesGn43
import Derived.Test.YtdcknaoamjlaiaaZSlotAgreesRingFacts0
import Derived.Test.YtdcknaoamjlaiaaZSlotAgreesCommon
import Derived.Test.YtdcknaoamjlaiaaZSlotAgreesConfFacts
import Derived.Test.YtdcknaoamjlaiaaZSlotAgreesBoundFacts
import Derived.Test.YtdcknaoamjlaiaaZSlotAgreesBoundRef
import Derived.Test.YtdcknaoamjlaiaaZSlotAgreesSlotRing
namespace Go.Proofs.Ytdcknaoamjlaiaa.Facts
open Go.RowKit Go.Proofs.Ytdcknaoamjlaiaa.Gn Go.Proofs.YtdcknaoamjlaiaaW.PrintWords Go.Proofs.YtdcknaoamjlaiaaW.PrintLast
set_option linter.unusedVariables false
/-- The slot to which units belong. -/
def slotV (c6 c7 n e : Int) : Int := if e < c6 then -1 else if (e - c6) / c7 ≥ n then -1 else (e - c6) / c7
theorem quot_bd {e c7 : Int} (h : 1 ≤ c7) : e / c7 * c7 ≤ e ∧ e < (e / c7 + 1) * c7 :=
  ⟨Int.ediv_mul_le e (by omega), Int.lt_ediv_add_one_mul_self e (by omega)⟩
theorem mul_mono {i j c : Int} (h : i ≤ j) (hc : 0 ≤ c) : i * c ≤ j * c := Int.mul_le_mul_of_nonneg_right h hc
/-- Who tells of all borders alike tells the same slot. -/
theorem slotV_eq {c6 c7 x y : Int} {n : Nat} (h7 : 1 ≤ c7) (h : ∀ i : Nat, i ≤ n → (c6 + (i : Int) * c7 ≤ x ↔ c6 + (i : Int) * c7 ≤ y)) : slotV c6 c7 n x = slotV c6 c7 n y := by
  have h0 := h 0 (by omega)
  have hn := h n (by omega)
  simp only [Int.natCast_zero, Int.zero_mul, Int.add_zero] at h0
  have qx := quot_bd (e := x - c6) h7
  have qy := quot_bd (e := y - c6) h7
  have key : ∀ u v : Int, ¬ u < c6 → ¬ v < c6 → ¬ (u - c6) / c7 ≥ n → (∀ i : Nat, i ≤ n → (c6 + (i : Int) * c7 ≤ u ↔ c6 + (i : Int) * c7 ≤ v)) → (u - c6) / c7 = (v - c6) / c7 := by
    intro u v hu hv hq hh
    have qu := quot_bd (e := u - c6) h7
    have p0 : 0 ≤ (u - c6) / c7 := Int.ediv_nonneg (by omega) (by omega)
    obtain ⟨q, hq'⟩ := Int.eq_ofNat_of_zero_le p0
    rw [hq'] at qu hq ⊢
    have a := (hh q (by omega)).1 (by omega)
    have b := hh (q + 1) (by omega)
    have e : ((q + 1 : Nat) : Int) * c7 = ((q : Int) + 1) * c7 := by push_cast; rfl
    rw [e] at b
    have : ¬ c6 + ((q : Int) + 1) * c7 ≤ v := fun x => by have := b.2 x; omega
    refine (Int.le_antisymm ?_ ?_)
    · exact Int.le_ediv_of_mul_le (by omega) (by omega)
    · have := Int.ediv_lt_of_lt_mul (a := v - c6) (b := (q : Int) + 1) (c := c7) (by omega) (by omega)
      omega
  have over : ∀ u v : Int, ¬ v < c6 → (u - c6) / c7 ≥ n → ¬ u < c6 → (c6 + (n : Int) * c7 ≤ u → c6 + (n : Int) * c7 ≤ v) → (v - c6) / c7 ≥ n := by
    intro u v hv hq hu hh
    have qu := quot_bd (e := u - c6) h7
    have := mul_mono (c := c7) (show (n : Int) ≤ (u - c6) / c7 by omega) (by omega)
    exact Int.le_ediv_of_mul_le (by omega) (by have := hh (by omega); omega)
  unfold slotV
  by_cases hx : x < c6
  · rw [if_pos hx, if_pos (by omega)]
  · have hy : ¬ y < c6 := by omega
    rw [if_neg hx, if_neg hy]
    by_cases gx : (x - c6) / c7 ≥ n
    · rw [if_pos gx, if_pos (over x y (by omega) gx hx hn.1)]
    · have gy : ¬ (y - c6) / c7 ≥ n := fun g => gx (over y x hx g (by omega) hn.2)
      rw [if_neg gx, if_neg gy, key x y hx (by omega) gx h]
section
variable (c0 c1 c2 c3 c4 c5 c6 c7 c8 c9 : Int) (l : List Int)
theorem slot_eq (e : Int) (he : -9223372036854775808 ≤ e ∧ e ≤ 9223372036854775807) (k : Nat) (hk : 9 ≤ k) : sched_Slot.f k c0 c1 c2 c3 c4 c5 c6 c7 c8 c9 l e = some (if plainE c0 c1 c2 c3 c4 c5 c6 c7 c8 c9 l = 0 then slotV c6 c7 l.length e else -1) := by
  obtain ⟨k, rfl, _⟩ := peel (m := 8) hk
  unfold sched_Slot.f
  rw [plain_eq (k + 1) (by omega), Option.bind_some]
  by_cases hp : plainE c0 c1 c2 c3 c4 c5 c6 c7 c8 c9 l = 0
  · have h := plain_iff.1 hp
    have h6 := h.o
    have h7 := h.s
    rw [if_pos hp, if_pos hp]
    unfold slotV
    by_cases c : e < c6
    · rw [decide_eq_true c, sched_Slot.j0, if_pos rfl, if_pos c]
    · have q0 : 0 ≤ (e - c6) / c7 := Int.ediv_nonneg (by omega) (by omega)
      have q1 : (e - c6) / c7 ≤ e - c6 := Int.ediv_le_self _ (by omega)
      rw [decide_eq_false c, sched_Slot.j0, if_neg (by decide), if_neg (by omega), if_neg c, w64 (a := e - c6) (by omega), Int.tdiv_eq_ediv_of_nonneg (by omega), w64 (by omega)]
      split <;> rfl
  · rw [if_neg hp, if_neg hp, sched_Slot.j0, if_pos rfl]
theorem ticked_eq (t : Int) : slot_ticked.f t = some (decide (0 ≤ t ∧ t ≤ 2000)) := by
  unfold slot_ticked.f
  by_cases c : t ≥ 0
  · rw [if_pos c]; congr 1; rw [Bool.eq_iff_iff, decide_eq_true_iff, decide_eq_true_iff]; omega
  · rw [if_neg c, decide_eq_false (by omega)]
def nominalV (t : Int) : Int := if (0 ≤ t ∧ t ≤ 2000) ∧ plainE c0 c1 c2 c3 c4 c5 c6 c7 c8 c9 l = 0 then slotV c6 c7 l.length (t * c4) else -1
theorem nominal_eq (t : Int) (k : Nat) (hk : 9 ≤ k) : slot_Nominal.f k c0 c1 c2 c3 c4 c5 c6 c7 c8 c9 l t = some (nominalV c0 c1 c2 c3 c4 c5 c6 c7 c8 c9 l t) := by
  unfold slot_Nominal.f nominalV
  rw [ticked_eq, Option.bind_some]
  by_cases c : 0 ≤ t ∧ t ≤ 2000
  · rw [if_pos (decide_eq_true c), plain_eq k (by omega), Option.bind_some]
    by_cases hp : plainE c0 c1 c2 c3 c4 c5 c6 c7 c8 c9 l = 0
    · have h := plain_iff.1 hp
      have hr := h.r
      have := mul_bd (x := t) (y := c4) (a := 2000) (b := 64) c ⟨by omega, by omega⟩
      rw [if_pos hp, if_pos ⟨c, hp⟩, w64 (by omega), slot_eq _ _ _ _ _ _ _ _ _ _ _ _ (by omega) k hk, if_pos hp]
      rfl
    · rw [if_neg hp, if_neg (fun x => hp x.2)]
  · rw [if_neg (by simpa using c), if_neg (fun x => c x.1)]
def nowV (e : Int) : Int := if plainE c0 c1 c2 c3 c4 c5 c6 c7 c8 c9 l = 0 then slotV c6 c7 l.length e else -1
theorem now_eq (a b : Int) (k : Nat) (hk : 9 ≤ k) : slot_Now.f k c0 c1 c2 c3 c4 c5 c6 c7 c8 c9 l a b = some (nowV c0 c1 c2 c3 c4 c5 c6 c7 c8 c9 l ((a - b) % 65536)) := by
  unfold slot_Now.f nowV
  rw [elapsed_eq, Option.bind_some, slot_eq _ _ _ _ _ _ _ _ _ _ _ _ (by omega) k hk]
  rfl
/-- Whether something holds of all borders from one on. -/
def bordAll (p : Int → Bool) : Nat → Nat → Bool
  | 0, j => p (c6 + (j : Int) * c7)
  | d + 1, j => p (c6 + (j : Int) * c7) && bordAll p d (j + 1)
theorem bordAll_at (p : Int → Bool) : ∀ (d j : Nat), bordAll c6 c7 p d j = true → ∀ i, j ≤ i → i ≤ j + d → p (c6 + (i : Int) * c7) = true
  | 0, j, h, i, h0, h1 => by
    rw [show i = j from by omega]
    exact h
  | d + 1, j, h, i, h0, h1 => by
    rw [bordAll, Bool.and_eq_true] at h
    by_cases e : i = j
    · rw [e]; exact h.1
    · exact bordAll_at p d (j + 1) h.2 i (by omega) (by omega)
theorem bord_l0 (h : Plain c0 c1 c2 c3 c4 c5 c6 c7 c8 c9 l) : ∀ (d k j : Nat) (acc : List Int), j + d = l.length → d + 9 ≤ k → acc.length = j → ∃ L, slot_borders.l0 k acc (l.length : Int) (j : Int) c0 c1 c2 c3 c4 c5 c6 c7 c8 c9 l = some L ∧ ∀ p, L.all p = (acc.all p && bordAll c6 c7 p d j)
  | 0, k, j, acc, hj, hk, ha => by
    obtain ⟨k, rfl, _⟩ := peel (m := 8) (by omega)
    have hl := h.len
    have h7 := h.s
    have h6 := h.o
    have := mul_bd (x := (l.length : Int)) (y := c7) (a := 32) (b := 30000) ⟨by omega, by omega⟩ ⟨by omega, by omega⟩
    refine ⟨_, by rw [slot_borders.l0, if_neg (by omega), if_pos (by omega)], fun p => ?_⟩
    rw [w64 (a := (l.length : Int) * c7) (by omega), w64 (by omega), List.all_append, bordAll, show (j : Int) = (l.length : Int) from by omega]
    simp
  | d + 1, k, j, acc, hj, hk, ha => by
    obtain ⟨k, rfl, hk'⟩ := peel (m := d + 9) (by omega)
    have hl := h.len
    have hc : plainE c0 c1 c2 c3 c4 c5 c6 c7 c8 c9 l = 0 ∧ 0 ≤ (j : Int) ∧ (j : Int) < l.length := ⟨plain_iff.2 h, by omega, by omega⟩
    obtain ⟨L, hL, hp⟩ := bord_l0 h d k (j + 1) (acc ++ [c6 + (j : Int) * c7]) (by omega) hk' (by simp; omega)
    refine ⟨L, ?_, fun p => ?_⟩
    · rw [slot_borders.l0, if_pos (by omega), begin_eq _ _ _ _ _ _ _ _ _ _ _ k (by omega), Option.bind_some, if_pos hc, if_pos (by omega), w64_step (by omega)]
      exact hL
    · rw [hp p, List.all_append, bordAll]
      simp [Bool.and_assoc]
def clearV (t : Int) : Bool := decide ((0 ≤ t ∧ t ≤ 2000) ∧ plainE c0 c1 c2 c3 c4 c5 c6 c7 c8 c9 l = 0) && bordAll c6 c7 (clearsB (t * (c4 - c5)) (t * (c4 + c5))) l.length 0
theorem tick_bd (h : Plain c0 c1 c2 c3 c4 c5 c6 c7 c8 c9 l) {t : Int} (ht : 0 ≤ t ∧ t ≤ 2000) : (0 ≤ t * (c4 - c5) ∧ t * (c4 - c5) ≤ 128000) ∧ (0 ≤ t * (c4 + c5) ∧ t * (c4 + c5) ≤ 256000) ∧ (0 ≤ t * c4 ∧ t * c4 ≤ 128000) ∧ (0 ≤ t * c5 ∧ t * c5 ≤ 128000) ∧ t * (c4 - c5) = t * c4 - t * c5 ∧ t * (c4 + c5) = t * c4 + t * c5 := by
  have hr := h.r
  have hd := h.dr
  have a := mul_bd (x := t) (y := c4 - c5) (a := 2000) (b := 64) ht ⟨by omega, by omega⟩
  have b := mul_bd (x := t) (y := c4 + c5) (a := 2000) (b := 128) ht ⟨by omega, by omega⟩
  have c := mul_bd (x := t) (y := c4) (a := 2000) (b := 64) ht ⟨by omega, by omega⟩
  have d := mul_bd (x := t) (y := c5) (a := 2000) (b := 64) ht ⟨by omega, by omega⟩
  exact ⟨by omega, by omega, by omega, by omega, Int.mul_sub .., Int.mul_add ..⟩
theorem clear_eq (t : Int) (k : Nat) (hk : 50 ≤ k) : slot_Clear.f k c0 c1 c2 c3 c4 c5 c6 c7 c8 c9 l t = some (clearV c0 c1 c2 c3 c4 c5 c6 c7 c8 c9 l t) := by
  unfold slot_Clear.f clearV
  rw [ticked_eq, Option.bind_some]
  by_cases c : 0 ≤ t ∧ t ≤ 2000
  · rw [if_pos (decide_eq_true c), plain_eq k (by omega), Option.bind_some]
    by_cases hp : plainE c0 c1 c2 c3 c4 c5 c6 c7 c8 c9 l = 0
    · have h := plain_iff.1 hp
      have hl := h.len
      have b := tick_bd _ _ _ _ _ _ _ _ _ _ _ h c
      obtain ⟨L, hL, hall⟩ := bord_l0 _ _ _ _ _ _ _ _ _ _ _ h l.length k 0 [] (by omega) (by omega) rfl
      unfold slot_borders.f
      rw [if_pos hp, show (0 : Int) = ((0 : Nat) : Int) from rfl, hL, Option.bind_some, hall, slow_w h, fast_w h, w64 (a := t * (c4 - c5)) (by omega), w64 (a := t * (c4 + c5)) (by omega), decide_eq_true ⟨c, hp⟩]
      rfl
    · rw [if_neg hp, decide_eq_false (fun x => hp x.2)]
      rfl
  · rw [if_neg (by simpa using c), decide_eq_false (fun x => c x.1)]
    rfl
end
theorem known22 (k : Nat) (hk : 300 ≤ k) : bellwetherlaw22_known.f k = some true := leo_up bellwetherlaw22_known.mono hk (by decide +kernel)
end Go.Proofs.Ytdcknaoamjlaiaa.Facts
