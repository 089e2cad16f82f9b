import Derived.Test.YtdcknaoamjlaiaaZSlotWindowsGn25
import Derived.Test.YtdcknaoamjlaiaaZSlotWindowsGn26
import Derived.Test.YtdcknaoamjlaiaaZSlotWindowsGn0
import Derived.Test.YtdcknaoamjlaiaaZSlotWindowsGn2
import Derived.Test.YtdcknaoamjlaiaaZSlotWindowsGn38
import Derived.Test.YtdcknaoamjlaiaaZSlotWindowsGn39
import Derived.Test.YtdcknaoamjlaiaaZSlotWindowsGn46
import Derived.Test.YtdcknaoamjlaiaaZSlotWindowsGn47
import Derived.Test.YtdcknaoamjlaiaaZSlotWindowsGn57
import Derived.Test.YtdcknaoamjlaiaaZSlotWindowsGn58
import Derived.Test.YtdcknaoamjlaiaaZSlotWindowsGn60
import Derived.Test.YtdcknaoamjlaiaaZSlotWindowsGn62
import Derived.Test.YtdcknaoamjlaiaaZSlotWindowsGn63
import Derived.Test.YtdcknaoamjlaiaaZSlotWindowsGn65
import Derived.Test.YtdcknaoamjlaiaaZSlotWindowsGn66
import Derived.Test.YtdcknaoamjlaiaaZSlotWindowsRingFacts0
import Derived.Test.YtdcknaoamjlaiaaZSlotWindowsCommon
import Derived.Test.YtdcknaoamjlaiaaZSlotWindowsConfFacts
import Derived.Test.YtdcknaoamjlaiaaZSlotWindowsBoundFacts
import Derived.Test.YtdcknaoamjlaiaaZSlotWindowsBoundRef
import Derived.Test.YtdcknaoamjlaiaaZSlotWindowsGn21
import Derived.Test.YtdcknaoamjlaiaaZSlotWindowsGn22
import Derived.Test.YtdcknaoamjlaiaaZSlotWindowsGn23
namespace Go.Proofs.Ytdcknaoamjlaiaa.Facts
open Go.RowKit Go.Proofs.Ytdcknaoamjlaiaa.Gn Go.Proofs.YtdcknaoamjlaiaaW.PrintWords Go.Proofs.YtdcknaoamjlaiaaW.PrintLast
set_option linter.unusedVariables false
section
variable (c0 c1 c2 c3 c4 c5 c6 c7 c8 c9 : Int) (l : List Int)
theorem ticked_eq (t : Int) : slot_ticked.f t = some (decide (0 ≤ t ∧ t ≤ 2000)) := by
  unfold slot_ticked.f
  by_cases c : t ≥ 0
  · rw [if_pos c]; congr 1; rw [Bool.eq_iff_iff, decide_eq_true_iff, decide_eq_true_iff]; omega
  · rw [if_neg c, decide_eq_false (by omega)]
/-- Whether something holds of all borders from one on. -/
def bordAll (p : Int → Bool) : Nat → Nat → Bool
  | 0, j => p (c6 + (j : Int) * c7)
  | d + 1, j => p (c6 + (j : Int) * c7) && bordAll p d (j + 1)
theorem bord_l0 (h : Plain c0 c1 c2 c3 c4 c5 c6 c7 c8 c9 l) : ∀ (d k j : Nat) (acc : List Int), j + d = l.length → d + 9 ≤ k → acc.length = j → ∃ L, slot_borders.l0 k acc (l.length : Int) (j : Int) c0 c1 c2 c3 c4 c5 c6 c7 c8 c9 l = some L ∧ ∀ p, L.all p = (acc.all p && bordAll c6 c7 p d j)
  | 0, k, j, acc, hj, hk, ha => by
    obtain ⟨k, rfl, _⟩ := peel (m := 8) (by omega)
    have hl := h.len
    have h7 := h.s
    have h6 := h.o
    have := mul_bd (x := (l.length : Int)) (y := c7) (a := 32) (b := 30000) ⟨by omega, by omega⟩ ⟨by omega, by omega⟩
    refine ⟨_, by rw [slot_borders.l0, if_neg (by omega), if_pos (by omega)], fun p => ?_⟩
    rw [w64 (a := (l.length : Int) * c7) (by omega), w64 (by omega), List.all_append, bordAll, show (j : Int) = (l.length : Int) from by omega]
    simp
  | d + 1, k, j, acc, hj, hk, ha => by
    obtain ⟨k, rfl, hk'⟩ := peel (m := d + 9) (by omega)
    have hl := h.len
    have hc : plainE c0 c1 c2 c3 c4 c5 c6 c7 c8 c9 l = 0 ∧ 0 ≤ (j : Int) ∧ (j : Int) < l.length := ⟨plain_iff.2 h, by omega, by omega⟩
    obtain ⟨L, hL, hp⟩ := bord_l0 h d k (j + 1) (acc ++ [c6 + (j : Int) * c7]) (by omega) hk' (by simp; omega)
    refine ⟨L, ?_, fun p => ?_⟩
    · rw [slot_borders.l0, if_pos (by omega), begin_eq _ _ _ _ _ _ _ _ _ _ _ k (by omega), Option.bind_some, if_pos hc, if_pos (by omega), w64_step (by omega)]
      exact hL
    · rw [hp p, List.all_append, bordAll]
      simp [Bool.and_assoc]
def clearV (t : Int) : Bool := decide ((0 ≤ t ∧ t ≤ 2000) ∧ plainE c0 c1 c2 c3 c4 c5 c6 c7 c8 c9 l = 0) && bordAll c6 c7 (clearsB (t * (c4 - c5)) (t * (c4 + c5))) l.length 0
theorem tick_bd (h : Plain c0 c1 c2 c3 c4 c5 c6 c7 c8 c9 l) {t : Int} (ht : 0 ≤ t ∧ t ≤ 2000) : (0 ≤ t * (c4 - c5) ∧ t * (c4 - c5) ≤ 128000) ∧ (0 ≤ t * (c4 + c5) ∧ t * (c4 + c5) ≤ 256000) ∧ (0 ≤ t * c4 ∧ t * c4 ≤ 128000) ∧ (0 ≤ t * c5 ∧ t * c5 ≤ 128000) ∧ t * (c4 - c5) = t * c4 - t * c5 ∧ t * (c4 + c5) = t * c4 + t * c5 := by
  have hr := h.r
  have hd := h.dr
  have a := mul_bd (x := t) (y := c4 - c5) (a := 2000) (b := 64) ht ⟨by omega, by omega⟩
  have b := mul_bd (x := t) (y := c4 + c5) (a := 2000) (b := 128) ht ⟨by omega, by omega⟩
  have c := mul_bd (x := t) (y := c4) (a := 2000) (b := 64) ht ⟨by omega, by omega⟩
  have d := mul_bd (x := t) (y := c5) (a := 2000) (b := 64) ht ⟨by omega, by omega⟩
  exact ⟨by omega, by omega, by omega, by omega, Int.mul_sub .., Int.mul_add ..⟩
theorem clear_eq (t : Int) (k : Nat) (hk : 50 ≤ k) : slot_Clear.f k c0 c1 c2 c3 c4 c5 c6 c7 c8 c9 l t = some (clearV c0 c1 c2 c3 c4 c5 c6 c7 c8 c9 l t) := by
  unfold slot_Clear.f clearV
  rw [ticked_eq, Option.bind_some]
  by_cases c : 0 ≤ t ∧ t ≤ 2000
  · rw [if_pos (decide_eq_true c), plain_eq k (by omega), Option.bind_some]
    by_cases hp : plainE c0 c1 c2 c3 c4 c5 c6 c7 c8 c9 l = 0
    · have h := plain_iff.1 hp
      have hl := h.len
      have b := tick_bd _ _ _ _ _ _ _ _ _ _ _ h c
      obtain ⟨L, hL, hall⟩ := bord_l0 _ _ _ _ _ _ _ _ _ _ _ h l.length k 0 [] (by omega) (by omega) rfl
      unfold slot_borders.f
      rw [if_pos hp, show (0 : Int) = ((0 : Nat) : Int) from rfl, hL, Option.bind_some, hall, slow_w h, fast_w h, w64 (a := t * (c4 - c5)) (by omega), w64 (a := t * (c4 + c5)) (by omega), decide_eq_true ⟨c, hp⟩]
      rfl
    · rw [if_neg hp, decide_eq_false (fun x => hp x.2)]
      rfl
  · rw [if_neg (by simpa using c), decide_eq_false (fun x => c x.1)]
    rfl
theorem far_eq (h : Plain c0 c1 c2 c3 c4 c5 c6 c7 c8 c9 l) {t b : Int} (ht : 0 ≤ t ∧ t ≤ 2000) (hb : 0 ≤ b ∧ b ≤ 1000000) : bellwetherref22_far.f c0 c1 c2 c3 c4 c5 c6 c7 c8 c9 l t b = some (clearsB (t * (c4 - c5)) (t * (c4 + c5)) b) := by
  have k := tick_bd _ _ _ _ _ _ _ _ _ _ _ h ht
  unfold bellwetherref22_far.f clearsB
  rw [w64 (a := t * c4) (by omega), w64 (a := t * c4 - b) (by omega), w64 (a := t * c5) (by omega), w64 (a := -(t * c4 - b)) (by omega)]
  by_cases c : t * c4 - b > t * c5
  · rw [if_pos c, decide_eq_true (by omega)]; rfl
  · rw [if_neg c, decide_eq_false (show ¬ t * (c4 - c5) > b by omega)]
    congr 1
    rw [Bool.false_or, Bool.eq_iff_iff, decide_eq_true_iff, decide_eq_true_iff]
    omega
theorem rclear_l0 (h : Plain c0 c1 c2 c3 c4 c5 c6 c7 c8 c9 l) {t : Int} (ht : 0 ≤ t ∧ t ≤ 2000) : ∀ (d k j : Nat), j + d = l.length → d + 701 ≤ k → bellwetherref22_Clear.l0 k t (j : Int) c0 c1 c2 c3 c4 c5 c6 c7 c8 c9 l = some (bordAll c6 c7 (clearsB (t * (c4 - c5)) (t * (c4 + c5))) d j)
  | 0, k, j, hj, hk => by
    obtain ⟨k, rfl, _⟩ := peel (m := 700) (by omega)
    have hl := h.len
    have h7 := h.s
    have h6 := h.o
    have hb := begin_bd h (last_i h)
    have e1 : (l.length : Int) * c7 = ((l.length : Int) - 1) * c7 + c7 := by rw [Int.sub_mul, Int.one_mul]; omega
    rw [bellwetherref22_Clear.l0, if_neg (by omega), len_w h, ref_begin_eq _ _ _ _ _ _ _ _ _ _ _ k (by omega), Option.bind_some, if_pos ⟨plain_iff.2 h, last_i h⟩]
    unfold beginV
    rw [w64 (by omega), far_eq _ _ _ _ _ _ _ _ _ _ _ h ht (by omega), Option.bind_some, bordAll, show (j : Int) = (l.length : Int) from by omega, e1, ← Int.add_assoc]
  | d + 1, k, j, hj, hk => by
    obtain ⟨k, rfl, hk'⟩ := peel (m := d + 701) (by omega)
    have hl := h.len
    have h6 := h.o
    have hb := begin_bd h (i := (j : Int)) ⟨by omega, by omega⟩
    have hc : plainE c0 c1 c2 c3 c4 c5 c6 c7 c8 c9 l = 0 ∧ 0 ≤ (j : Int) ∧ (j : Int) < l.length := ⟨plain_iff.2 h, by omega, by omega⟩
    rw [bellwetherref22_Clear.l0, if_pos (by omega), ref_begin_eq _ _ _ _ _ _ _ _ _ _ _ k (by omega), Option.bind_some, if_pos hc]
    unfold beginV
    rw [far_eq _ _ _ _ _ _ _ _ _ _ _ h ht (by omega), Option.bind_some, bordAll, w64_step (by omega)]
    cases clearsB (t * (c4 - c5)) (t * (c4 + c5)) (c6 + (j : Int) * c7) with
    | false => rfl
    | true =>
      rw [if_pos rfl, rclear_l0 h ht d k (j + 1) (by omega) hk']
      rfl
theorem rclear_eq (t : Int) (k : Nat) (hk : 740 ≤ k) : bellwetherref22_Clear.f k c0 c1 c2 c3 c4 c5 c6 c7 c8 c9 l t = some (clearV c0 c1 c2 c3 c4 c5 c6 c7 c8 c9 l t) := by
  obtain ⟨k, rfl, _⟩ := peel (m := 739) hk
  unfold bellwetherref22_Clear.f clearV
  rw [ref_plain_eq _ _ _ _ _ _ _ _ _ _ _ (k + 1) (by omega), Option.bind_some]
  by_cases hp : plainE c0 c1 c2 c3 c4 c5 c6 c7 c8 c9 l = 0
  · have h := plain_iff.1 hp
    have hl := h.len
    rw [if_pos hp]
    by_cases c : t < 0
    · rw [if_pos c, bellwetherref22_Clear.j0, if_pos rfl, decide_eq_false (fun x => by omega)]; rfl
    · rw [if_neg c]
      by_cases cc : t > 2000
      · rw [decide_eq_true cc, bellwetherref22_Clear.j0, if_pos rfl, decide_eq_false (fun x => by omega)]; rfl
      · rw [decide_eq_false cc, bellwetherref22_Clear.j0, if_neg (by decide), show (0 : Int) = ((0 : Nat) : Int) from rfl, rclear_l0 _ _ _ _ _ _ _ _ _ _ _ h ⟨by omega, by omega⟩ l.length k 0 (by omega) (by omega), decide_eq_true ⟨⟨by omega, by omega⟩, hp⟩]
        rfl
  · rw [if_neg hp, bellwetherref22_Clear.j0, if_pos rfl, decide_eq_false (fun x => hp x.2)]
    rfl
def ownerV (i : Int) : Int := if plainE c0 c1 c2 c3 c4 c5 c6 c7 c8 c9 l = 0 ∧ 0 ≤ i ∧ i < l.length then rd l i else -1
theorem owner_eq (i : Int) (k : Nat) (hk : 9 ≤ k) : sched_Owner.f k c0 c1 c2 c3 c4 c5 c6 c7 c8 c9 l i = some (ownerV c0 c1 c2 c3 c4 c5 c6 c7 c8 c9 l i) := by
  unfold sched_Owner.f ownerV
  rw [plain_eq k (by omega), Option.bind_some]
  by_cases hp : plainE c0 c1 c2 c3 c4 c5 c6 c7 c8 c9 l = 0
  · rw [if_pos hp]
    by_cases c : i < 0
    · rw [if_pos c, if_neg (fun x => by omega)]
    · rw [if_neg c]
      by_cases cc : i ≥ (l.length : Int)
      · rw [if_pos cc, if_neg (fun x => by omega)]
      · rw [if_neg cc, if_pos (by omega), if_pos (by omega), if_pos ⟨hp, by omega, by omega⟩]
  · rw [if_neg hp, if_neg (fun x => hp x.1)]
theorem rowner_eq (i : Int) (k : Nat) (hk : 740 ≤ k) : bellwetherref21_Owner.f k c0 c1 c2 c3 c4 c5 c6 c7 c8 c9 l i = some (ownerV c0 c1 c2 c3 c4 c5 c6 c7 c8 c9 l i) := by
  unfold bellwetherref21_Owner.f ownerV
  rw [ref_plain_eq _ _ _ _ _ _ _ _ _ _ _ k (by omega), Option.bind_some]
  by_cases hp : plainE c0 c1 c2 c3 c4 c5 c6 c7 c8 c9 l = 0
  · rw [if_pos hp]
    by_cases c : i < 0
    · rw [if_pos c, if_neg (fun x => by omega)]
    · rw [if_neg c]
      by_cases cc : i ≥ (l.length : Int)
      · rw [if_pos cc, if_neg (fun x => by omega)]
      · rw [if_neg cc, if_pos (by omega), if_pos (by omega), if_pos ⟨hp, by omega, by omega⟩]
  · rw [if_neg hp, if_neg (fun x => hp x.1)]
theorem rd_owner (h : Plain c0 c1 c2 c3 c4 c5 c6 c7 c8 c9 l) {i : Int} (hi : 0 ≤ i ∧ i < l.length) : 0 ≤ rd l i ∧ rd l i < c0 := by
  obtain ⟨j, rfl⟩ := Int.eq_ofNat_of_zero_le hi.1
  rw [rd_at l j (by omega)]
  exact h.own _ (List.getElem_mem _)
/-- A slot's window. -/
def lowV (i : Int) : Int := middleV c6 c7 i + c2 * c4 - guardV c2 c4 c5 c6 c7 l.length
def highV (i : Int) : Int := middleV c6 c7 i + c2 * c4 + guardV c2 c4 c5 c6 c7 l.length
def windowV (i : Int) : Int × Int := if plainE c0 c1 c2 c3 c4 c5 c6 c7 c8 c9 l = 0 ∧ 0 ≤ i ∧ i < l.length then (lowV c2 c4 c5 c6 c7 l i, highV c2 c4 c5 c6 c7 l i) else (0, 0)
theorem window_bd (h : Plain c0 c1 c2 c3 c4 c5 c6 c7 c8 c9 l) {i : Int} (hi : 0 ≤ i ∧ i < l.length) : wrap64 (wrap64 (middleV c6 c7 i + wrap64 (c2 * c4)) - guardV c2 c4 c5 c6 c7 l.length) = lowV c2 c4 c5 c6 c7 l i ∧ wrap64 (wrap64 (middleV c6 c7 i + wrap64 (c2 * c4)) + guardV c2 c4 c5 c6 c7 l.length) = highV c2 c4 c5 c6 c7 l i := by
  have hm := middle_bd h hi
  have hg := guard_bd h
  have hd := h.d
  have hr := h.r
  have b := mul_bd (x := c2) (y := c4) (a := 4) (b := 64) ⟨by omega, by omega⟩ ⟨by omega, by omega⟩
  rw [w64 (a := c2 * c4) (by omega), w64 (a := middleV c6 c7 i + c2 * c4) (by omega), w64 (by omega), w64 (by omega)]
  exact ⟨rfl, rfl⟩
theorem window_eq (i : Int) (k : Nat) (hk : 9 ≤ k) : slot_Window.f k c0 c1 c2 c3 c4 c5 c6 c7 c8 c9 l i = some (windowV c0 c1 c2 c3 c4 c5 c6 c7 c8 c9 l i) := by
  unfold slot_Window.f windowV
  rw [owner_eq _ _ _ _ _ _ _ _ _ _ _ _ k hk, Option.bind_some]
  unfold ownerV
  by_cases c : plainE c0 c1 c2 c3 c4 c5 c6 c7 c8 c9 l = 0 ∧ 0 ≤ i ∧ i < l.length
  · have h := plain_iff.1 c.1
    have := rd_owner _ _ _ _ _ _ _ _ _ _ _ h c.2
    obtain ⟨e1, e2⟩ := window_bd _ _ _ _ _ _ _ _ _ _ _ h c.2
    rw [if_pos c, if_pos c, if_neg (by omega), middle_eq _ _ _ _ _ _ _ _ _ _ _ k (by omega), Option.bind_some, if_pos c, guard_eq _ _ _ _ _ _ _ _ _ _ _ k (by omega), Option.bind_some, if_pos c.1, e1, e2]
  · rw [if_neg c, if_neg c, if_pos rfl]
theorem rwindow_eq (i : Int) (k : Nat) (hk : 740 ≤ k) : bellwetherref22_Window.f k c0 c1 c2 c3 c4 c5 c6 c7 c8 c9 l i = some (windowV c0 c1 c2 c3 c4 c5 c6 c7 c8 c9 l i) := by
  unfold bellwetherref22_Window.f windowV
  rw [rowner_eq _ _ _ _ _ _ _ _ _ _ _ _ k hk, Option.bind_some]
  unfold ownerV
  by_cases c : plainE c0 c1 c2 c3 c4 c5 c6 c7 c8 c9 l = 0 ∧ 0 ≤ i ∧ i < l.length
  · have h := plain_iff.1 c.1
    have := rd_owner _ _ _ _ _ _ _ _ _ _ _ h c.2
    obtain ⟨e1, e2⟩ := window_bd _ _ _ _ _ _ _ _ _ _ _ h c.2
    rw [if_pos c, if_pos c, if_neg (by omega), ref_middle_eq _ _ _ _ _ _ _ _ _ _ _ k (by omega), Option.bind_some, if_pos c, ref_guard_eq _ _ _ _ _ _ _ _ _ _ _ k (by omega), Option.bind_some, if_pos c.1, Option.bind_some, e1, e2]
  · rw [if_neg c, if_neg c, if_pos (by decide)]
/-- The first slot from one on in whose window units lie. -/
def hitV (e : Int) : Nat → Nat → Int
  | 0, _ => -1
  | d + 1, j => if lowV c2 c4 c5 c6 c7 l (j : Int) ≤ e ∧ e ≤ highV c2 c4 c5 c6 c7 l (j : Int) then (j : Int) else hitV e d (j + 1)
theorem hit_l0 (h : Plain c0 c1 c2 c3 c4 c5 c6 c7 c8 c9 l) (e : Int) : ∀ (d k j : Nat), j + d = l.length → d + 10 ≤ k → slot_Hit.l0 k e (l.length : Int) (j : Int) c0 c1 c2 c3 c4 c5 c6 c7 c8 c9 l = some (hitV c2 c4 c5 c6 c7 l e d j)
  | 0, k, j, hj, hk => by
    obtain ⟨k, rfl, _⟩ := peel (m := 9) (by omega)
    rw [slot_Hit.l0, if_neg (by omega)]
    rfl
  | d + 1, k, j, hj, hk => by
    obtain ⟨k, rfl, hk'⟩ := peel (m := d + 10) (by omega)
    have hl := h.len
    have hc : plainE c0 c1 c2 c3 c4 c5 c6 c7 c8 c9 l = 0 ∧ 0 ≤ (j : Int) ∧ (j : Int) < l.length := ⟨plain_iff.2 h, by omega, by omega⟩
    rw [slot_Hit.l0, if_pos (by omega), window_eq _ _ _ _ _ _ _ _ _ _ _ _ k (by omega), Option.bind_some, w64_step (by omega), hit_l0 h e d k (j + 1) (by omega) hk']
    unfold windowV
    rw [if_pos hc, hitV]
    by_cases a : e ≥ lowV c2 c4 c5 c6 c7 l (j : Int)
    · rw [if_pos a]
      by_cases b : e ≤ highV c2 c4 c5 c6 c7 l (j : Int)
      · rw [if_pos b, if_pos ⟨a, b⟩]
      · rw [if_neg b, if_neg (fun x => b x.2)]
    · rw [if_neg a, if_neg (fun x => a x.1)]
theorem hit_eq (e : Int) (k : Nat) (hk : 50 ≤ k) : slot_Hit.f k c0 c1 c2 c3 c4 c5 c6 c7 c8 c9 l e = some (if plainE c0 c1 c2 c3 c4 c5 c6 c7 c8 c9 l = 0 then hitV c2 c4 c5 c6 c7 l e l.length 0 else -1) := by
  unfold slot_Hit.f
  rw [plain_eq k (by omega), Option.bind_some]
  by_cases hp : plainE c0 c1 c2 c3 c4 c5 c6 c7 c8 c9 l = 0
  · have h := plain_iff.1 hp
    have hl := h.len
    rw [if_pos hp, if_pos hp]
    exact hit_l0 _ _ _ _ _ _ _ _ _ _ _ h e l.length k 0 (by omega) (by omega)
  · rw [if_neg hp, if_neg hp]
theorem rhit_l0 (h : Plain c0 c1 c2 c3 c4 c5 c6 c7 c8 c9 l) (e : Int) : ∀ (d k j : Nat), j + d = l.length → d + 741 ≤ k → bellwetherref22_Hit.l0 k e (j : Int) c0 c1 c2 c3 c4 c5 c6 c7 c8 c9 l = some (hitV c2 c4 c5 c6 c7 l e d j)
  | 0, k, j, hj, hk => by
    obtain ⟨k, rfl, _⟩ := peel (m := 740) (by omega)
    rw [bellwetherref22_Hit.l0, if_neg (by omega)]
    rfl
  | d + 1, k, j, hj, hk => by
    obtain ⟨k, rfl, hk'⟩ := peel (m := d + 741) (by omega)
    have hl := h.len
    have hc : plainE c0 c1 c2 c3 c4 c5 c6 c7 c8 c9 l = 0 ∧ 0 ≤ (j : Int) ∧ (j : Int) < l.length := ⟨plain_iff.2 h, by omega, by omega⟩
    rw [bellwetherref22_Hit.l0, if_pos (by omega), rwindow_eq _ _ _ _ _ _ _ _ _ _ _ _ k (by omega), Option.bind_some, w64_step (by omega), rhit_l0 h e d k (j + 1) (by omega) hk']
    unfold windowV
    rw [if_pos hc, hitV]
    by_cases a : e ≥ lowV c2 c4 c5 c6 c7 l (j : Int)
    · rw [if_pos a]
      by_cases b : e ≤ highV c2 c4 c5 c6 c7 l (j : Int)
      · rw [if_pos b, if_pos ⟨a, b⟩]
      · rw [if_neg b, if_neg (fun x => b x.2)]
    · rw [if_neg a, if_neg (fun x => a x.1)]
theorem rhit_eq (e : Int) (k : Nat) (hk : 800 ≤ k) : bellwetherref22_Hit.f k c0 c1 c2 c3 c4 c5 c6 c7 c8 c9 l e = some (if plainE c0 c1 c2 c3 c4 c5 c6 c7 c8 c9 l = 0 then hitV c2 c4 c5 c6 c7 l e l.length 0 else -1) := by
  unfold bellwetherref22_Hit.f
  rw [ref_plain_eq _ _ _ _ _ _ _ _ _ _ _ k (by omega), Option.bind_some]
  by_cases hp : plainE c0 c1 c2 c3 c4 c5 c6 c7 c8 c9 l = 0
  · have h := plain_iff.1 hp
    have hl := h.len
    rw [if_pos hp, if_pos hp]
    exact rhit_l0 _ _ _ _ _ _ _ _ _ _ _ h e l.length k 0 (by omega) (by omega)
  · rw [if_neg hp, if_neg hp]
end
theorem known22 (k : Nat) (hk : 300 ≤ k) : bellwetherlaw22_known.f k = some true := leo_up bellwetherlaw22_known.mono hk (by decide +kernel)
end Go.Proofs.Ytdcknaoamjlaiaa.Facts
