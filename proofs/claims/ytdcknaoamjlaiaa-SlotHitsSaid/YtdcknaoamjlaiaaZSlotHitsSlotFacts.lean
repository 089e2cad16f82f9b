import Derived.Test.YtdcknaoamjlaiaaZSlotHitsGn25
import Derived.Test.YtdcknaoamjlaiaaZSlotHitsGn26
import Derived.Test.YtdcknaoamjlaiaaZSlotHitsGn0
import Derived.Test.YtdcknaoamjlaiaaZSlotHitsGn2
import Derived.Test.YtdcknaoamjlaiaaZSlotHitsGn38
import Derived.Test.YtdcknaoamjlaiaaZSlotHitsGn39
import Derived.Test.YtdcknaoamjlaiaaZSlotHitsGn34
import Derived.Test.YtdcknaoamjlaiaaZSlotHitsGn57
import Derived.Test.YtdcknaoamjlaiaaZSlotHitsGn58
import Derived.Test.YtdcknaoamjlaiaaZSlotHitsGn60
import Derived.Test.YtdcknaoamjlaiaaZSlotHitsGn62
import Derived.Test.YtdcknaoamjlaiaaZSlotHitsGn63
import Derived.Test.YtdcknaoamjlaiaaZSlotHitsGn43
import Derived.Test.YtdcknaoamjlaiaaZSlotHitsRingFacts0
import Derived.Test.YtdcknaoamjlaiaaZSlotHitsCommon
import Derived.Test.YtdcknaoamjlaiaaZSlotHitsConfFacts
import Derived.Test.YtdcknaoamjlaiaaZSlotHitsBoundFacts
import Derived.Test.YtdcknaoamjlaiaaZSlotHitsBoundRef
import Derived.Test.YtdcknaoamjlaiaaZSlotHitsSlotRing
namespace Go.Proofs.Ytdcknaoamjlaiaa.Facts
open Go.RowKit Go.Proofs.Ytdcknaoamjlaiaa.Gn Go.Proofs.YtdcknaoamjlaiaaW.PrintWords Go.Proofs.YtdcknaoamjlaiaaW.PrintLast
set_option linter.unusedVariables false
section
variable (c0 c1 c2 c3 c4 c5 c6 c7 c8 c9 : Int) (l : List Int)
def ownerV (i : Int) : Int := if plainE c0 c1 c2 c3 c4 c5 c6 c7 c8 c9 l = 0 ∧ 0 ≤ i ∧ i < l.length then rd l i else -1
theorem owner_eq (i : Int) (k : Nat) (hk : 9 ≤ k) : sched_Owner.f k c0 c1 c2 c3 c4 c5 c6 c7 c8 c9 l i = some (ownerV c0 c1 c2 c3 c4 c5 c6 c7 c8 c9 l i) := by
  unfold sched_Owner.f ownerV
  rw [plain_eq k (by omega), Option.bind_some]
  by_cases hp : plainE c0 c1 c2 c3 c4 c5 c6 c7 c8 c9 l = 0
  · rw [if_pos hp]
    by_cases c : i < 0
    · rw [if_pos c, if_neg (fun x => by omega)]
    · rw [if_neg c]
      by_cases cc : i ≥ (l.length : Int)
      · rw [if_pos cc, if_neg (fun x => by omega)]
      · rw [if_neg cc, if_pos (by omega), if_pos (by omega), if_pos ⟨hp, by omega, by omega⟩]
  · rw [if_neg hp, if_neg (fun x => hp x.1)]
theorem rd_owner (h : Plain c0 c1 c2 c3 c4 c5 c6 c7 c8 c9 l) {i : Int} (hi : 0 ≤ i ∧ i < l.length) : 0 ≤ rd l i ∧ rd l i < c0 := by
  obtain ⟨j, rfl⟩ := Int.eq_ofNat_of_zero_le hi.1
  rw [rd_at l j (by omega)]
  exact h.own _ (List.getElem_mem _)
/-- A slot's window. -/
def lowV (i : Int) : Int := middleV c6 c7 i + c2 * c4 - guardV c2 c4 c5 c6 c7 l.length
def highV (i : Int) : Int := middleV c6 c7 i + c2 * c4 + guardV c2 c4 c5 c6 c7 l.length
def windowV (i : Int) : Int × Int := if plainE c0 c1 c2 c3 c4 c5 c6 c7 c8 c9 l = 0 ∧ 0 ≤ i ∧ i < l.length then (lowV c2 c4 c5 c6 c7 l i, highV c2 c4 c5 c6 c7 l i) else (0, 0)
theorem window_bd (h : Plain c0 c1 c2 c3 c4 c5 c6 c7 c8 c9 l) {i : Int} (hi : 0 ≤ i ∧ i < l.length) : wrap64 (wrap64 (middleV c6 c7 i + wrap64 (c2 * c4)) - guardV c2 c4 c5 c6 c7 l.length) = lowV c2 c4 c5 c6 c7 l i ∧ wrap64 (wrap64 (middleV c6 c7 i + wrap64 (c2 * c4)) + guardV c2 c4 c5 c6 c7 l.length) = highV c2 c4 c5 c6 c7 l i := by
  have hm := middle_bd h hi
  have hg := guard_bd h
  have hd := h.d
  have hr := h.r
  have b := mul_bd (x := c2) (y := c4) (a := 4) (b := 64) ⟨by omega, by omega⟩ ⟨by omega, by omega⟩
  rw [w64 (a := c2 * c4) (by omega), w64 (a := middleV c6 c7 i + c2 * c4) (by omega), w64 (by omega), w64 (by omega)]
  exact ⟨rfl, rfl⟩
theorem window_eq (i : Int) (k : Nat) (hk : 9 ≤ k) : slot_Window.f k c0 c1 c2 c3 c4 c5 c6 c7 c8 c9 l i = some (windowV c0 c1 c2 c3 c4 c5 c6 c7 c8 c9 l i) := by
  unfold slot_Window.f windowV
  rw [owner_eq _ _ _ _ _ _ _ _ _ _ _ _ k hk, Option.bind_some]
  unfold ownerV
  by_cases c : plainE c0 c1 c2 c3 c4 c5 c6 c7 c8 c9 l = 0 ∧ 0 ≤ i ∧ i < l.length
  · have h := plain_iff.1 c.1
    have := rd_owner _ _ _ _ _ _ _ _ _ _ _ h c.2
    obtain ⟨e1, e2⟩ := window_bd _ _ _ _ _ _ _ _ _ _ _ h c.2
    rw [if_pos c, if_pos c, if_neg (by omega), middle_eq _ _ _ _ _ _ _ _ _ _ _ k (by omega), Option.bind_some, if_pos c, guard_eq _ _ _ _ _ _ _ _ _ _ _ k (by omega), Option.bind_some, if_pos c.1, e1, e2]
  · rw [if_neg c, if_neg c, if_pos rfl]
/-- The first slot from one on in whose window units lie. -/
def hitV (e : Int) : Nat → Nat → Int
  | 0, _ => -1
  | d + 1, j => if lowV c2 c4 c5 c6 c7 l (j : Int) ≤ e ∧ e ≤ highV c2 c4 c5 c6 c7 l (j : Int) then (j : Int) else hitV e d (j + 1)
theorem hit_l0 (h : Plain c0 c1 c2 c3 c4 c5 c6 c7 c8 c9 l) (e : Int) : ∀ (d k j : Nat), j + d = l.length → d + 10 ≤ k → slot_Hit.l0 k e (l.length : Int) (j : Int) c0 c1 c2 c3 c4 c5 c6 c7 c8 c9 l = some (hitV c2 c4 c5 c6 c7 l e d j)
  | 0, k, j, hj, hk => by
    obtain ⟨k, rfl, _⟩ := peel (m := 9) (by omega)
    rw [slot_Hit.l0, if_neg (by omega)]
    rfl
  | d + 1, k, j, hj, hk => by
    obtain ⟨k, rfl, hk'⟩ := peel (m := d + 10) (by omega)
    have hl := h.len
    have hc : plainE c0 c1 c2 c3 c4 c5 c6 c7 c8 c9 l = 0 ∧ 0 ≤ (j : Int) ∧ (j : Int) < l.length := ⟨plain_iff.2 h, by omega, by omega⟩
    rw [slot_Hit.l0, if_pos (by omega), window_eq _ _ _ _ _ _ _ _ _ _ _ _ k (by omega), Option.bind_some, w64_step (by omega), hit_l0 h e d k (j + 1) (by omega) hk']
    unfold windowV
    rw [if_pos hc, hitV]
    by_cases a : e ≥ lowV c2 c4 c5 c6 c7 l (j : Int)
    · rw [if_pos a]
      by_cases b : e ≤ highV c2 c4 c5 c6 c7 l (j : Int)
      · rw [if_pos b, if_pos ⟨a, b⟩]
      · rw [if_neg b, if_neg (fun x => b x.2)]
    · rw [if_neg a, if_neg (fun x => a x.1)]
theorem hit_eq (e : Int) (k : Nat) (hk : 50 ≤ k) : slot_Hit.f k c0 c1 c2 c3 c4 c5 c6 c7 c8 c9 l e = some (if plainE c0 c1 c2 c3 c4 c5 c6 c7 c8 c9 l = 0 then hitV c2 c4 c5 c6 c7 l e l.length 0 else -1) := by
  unfold slot_Hit.f
  rw [plain_eq k (by omega), Option.bind_some]
  by_cases hp : plainE c0 c1 c2 c3 c4 c5 c6 c7 c8 c9 l = 0
  · have h := plain_iff.1 hp
    have hl := h.len
    rw [if_pos hp, if_pos hp]
    exact hit_l0 _ _ _ _ _ _ _ _ _ _ _ h e l.length k 0 (by omega) (by omega)
  · rw [if_neg hp, if_neg hp]
end
/-- Windows are apart: who is in one is in no other one. -/
theorem hit_one {c2 c4 c5 c6 c7 : Int} {l : List Int} (h7 : 1 ≤ c7) (hg : c7 > 2 * guardV c2 c4 c5 c6 c7 l.length) {e : Int} {i : Nat} (he : lowV c2 c4 c5 c6 c7 l (i : Int) ≤ e ∧ e ≤ highV c2 c4 c5 c6 c7 l (i : Int)) : ∀ (d j : Nat), j ≤ i → i < j + d → hitV c2 c4 c5 c6 c7 l e d j = i
  | 0, j, h0, h1 => by omega
  | d + 1, j, h0, h1 => by
    rw [hitV]
    by_cases c : j = i
    · rw [c, if_pos he]
    · rw [if_neg]
      · exact hit_one h7 hg he d (j + 1) (by omega) (by omega)
      · rintro ⟨_, x⟩
        have y := he.1
        have : (j : Int) * c7 + c7 ≤ (i : Int) * c7 := by
          have := Int.mul_le_mul_of_nonneg_right (show (j : Int) + 1 ≤ (i : Int) by omega) (show 0 ≤ c7 by omega)
          rw [Int.add_mul, Int.one_mul] at this
          exact this
        unfold lowV at y
        unfold highV at x
        unfold middleV at x y
        omega
theorem known22 (k : Nat) (hk : 300 ≤ k) : bellwetherlaw22_known.f k = some true := leo_up bellwetherlaw22_known.mono hk (by decide +kernel)
end Go.Proofs.Ytdcknaoamjlaiaa.Facts
