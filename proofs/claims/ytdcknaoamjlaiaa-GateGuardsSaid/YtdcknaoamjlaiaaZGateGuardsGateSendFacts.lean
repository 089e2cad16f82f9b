import Derived.Test.YtdcknaoamjlaiaaZGateGuardsGn0
import Derived.Test.YtdcknaoamjlaiaaZGateGuardsGn51
import Derived.Test.YtdcknaoamjlaiaaZGateGuardsGn53
import Derived.Test.YtdcknaoamjlaiaaZGateGuardsGn54
import Derived.Test.YtdcknaoamjlaiaaZGateGuardsGn73
import Derived.Test.YtdcknaoamjlaiaaZGateGuardsGn3
import Derived.Test.YtdcknaoamjlaiaaZGateGuardsGn11
import Derived.Test.YtdcknaoamjlaiaaZGateGuardsGn39
import Derived.Test.YtdcknaoamjlaiaaZGateGuardsGn75
import Derived.Test.YtdcknaoamjlaiaaZGateGuardsRingFacts0
import Derived.Test.YtdcknaoamjlaiaaZGateGuardsCommon
import Derived.Test.YtdcknaoamjlaiaaZGateGuardsConfFacts
import Derived.Test.YtdcknaoamjlaiaaZGateGuardsBoundFacts
import Derived.Test.YtdcknaoamjlaiaaZGateGuardsSchedFacts
import Derived.Test.YtdcknaoamjlaiaaZGateGuardsDueFacts
import Derived.Test.YtdcknaoamjlaiaaZGateGuardsSlotRing
import Derived.Test.YtdcknaoamjlaiaaZGateGuardsGateFacts
import Derived.Test.YtdcknaoamjlaiaaZGateGuardsGateMarks
namespace Go.Proofs.Ytdcknaoamjlaiaa.Facts
open Go.RowKit Go.Proofs.Ytdcknaoamjlaiaa.Gn Go.Proofs.YtdcknaoamjlaiaaW.PrintWords Go.Proofs.YtdcknaoamjlaiaaW.PrintLast
set_option linter.unusedVariables false
theorem firstB_is {p : Int → Bool} : ∀ {L : List Int}, firstB p L = -1 ∨ (firstB p L ∈ L ∧ p (firstB p L) = true)
  | [] => .inl rfl
  | y :: ys => by
    unfold firstB
    by_cases h : p y = true
    · rw [if_pos h]
      exact .inr ⟨List.mem_cons_self .., h⟩
    · rw [if_neg h]
      rcases firstB_is (p := p) (L := ys) with e | e
      · exact .inl e
      · exact .inr ⟨List.mem_cons_of_mem _ e.1, e.2⟩
theorem open_bd (c : S24) (m : S44) (n : Int) : openV c m n = -1 ∨ (m.f8 ≥ 2 ∧ Plain c.f0 c.f1 c.f2 c.f3 c.f4 c.f5 c.f6 c.f7 c.f8 c.f9 c.f10 ∧ 0 ≤ openV c m n ∧ openV c m n < c.f10.length ∧ rd c.f10 (openV c m n) = n ∧ sentV m.f12 (openV c m n) = false) := by
  unfold openV
  by_cases h : m.f8 ≥ 2
  · rw [if_pos h]
    by_cases hp : plainE c.f0 c.f1 c.f2 c.f3 c.f4 c.f5 c.f6 c.f7 c.f8 c.f9 c.f10 = 0
    · rw [if_pos hp]
      unfold dueR
      rw [if_pos hp]
      rcases firstB_is (p := dueV c.f4 c.f5 c.f6 c.f7 ((m.f0 - m.f1) % 65536) m.f12) (L := ownedL c.f10 n c.f10.length) with e | ⟨e, e'⟩
      · exact .inl e
      · obtain ⟨a, b, d⟩ := ownedL_is e
        refine .inr ⟨h, plain_iff.1 hp, a, b, d, ?_⟩
        unfold dueV at e'
        simp only [Bool.and_eq_true, Bool.not_eq_true'] at e'
        exact e'.2
    · rw [if_neg hp]
      exact .inl rfl
  · rw [if_neg h]
    exact .inl rfl
theorem open_32 (c : S24) (m : S44) (n : Int) : openV c m n = -1 ∨ (0 ≤ openV c m n ∧ openV c m n < 32) := by
  rcases open_bd c m n with h | ⟨_, h, h0, h1, _⟩
  · exact .inl h
  · have := h.len
    exact .inr ⟨h0, by omega⟩
abbrev PT := ByteArray × Int × ByteArray × Int × Int × ByteArray
def stripT (p : S76) : PT := (p.f0, p.f1, p.f2, 0, 0, (⟨#[]⟩ : ByteArray))
def sameT (p : S76) : PT := (p.f0, p.f1, p.f2, p.f3, p.f4, p.f5)
def carT (p : S76) (k cyc : Int) (t : ByteArray) : PT := if k < 0 then stripT p else (p.f0, p.f1, p.f2, k + 1, cyc, t)
theorem carry_eq (p : S76) (k cyc : Int) (t : ByteArray) (hk : k = -1 ∨ (0 ≤ k ∧ k < 32)) : packet_Carry.f p.f0 p.f1 p.f2 p.f3 p.f4 p.f5 k cyc t = some (carT p k cyc t) := by
  unfold packet_Carry.f carT stripT
  by_cases h : k < 0
  · rw [if_pos h, if_pos h]
  · rw [if_neg h, if_neg h, if_neg (by omega), w64 (by omega)]
def sndS (m : S44) (len : Nat) (k : Int) : ByteArray := if k < 0 then m.f12 else FactsM.markV m.f12 (FactsM.cl len) [k]
def sndN (k : Int) : Int := if k < 0 then 0 else k + 1
def sndT (t : PT) (s : ByteArray) (n : Int) : ByteArray × Int × ByteArray × Int × Int × ByteArray × ByteArray × Int := (t.1, t.2.1, t.2.2.1, t.2.2.2.1, t.2.2.2.2.1, t.2.2.2.2.2, s, n)
theorem msg_eq (c : S24) (m : S44) (n : Int) (p : S76) (k : Nat) (hk : 900 ≤ k) : gate_message.f k c.f0 c.f1 c.f2 c.f3 c.f4 c.f5 c.f6 c.f7 c.f8 c.f9 c.f10 m.f0 m.f1 m.f2 m.f3 m.f4 m.f5 m.f6 m.f7 m.f8 m.f9 m.f10 m.f11 m.f12 m.f13 m.f14 m.f15 m.f16 m.f17 m.f18.f0 m.f18.f1 m.f18.f2 m.f18.f3 m.f18.f4 m.f18.f5 n p.f0 p.f1 p.f2 p.f3 p.f4 p.f5 = some (let t := carT p (openV c m n) m.f7 m.f14; (t.1, t.2.1, t.2.2.1, t.2.2.2.1, t.2.2.2.2.1, t.2.2.2.2.2, openV c m n)) := by
  unfold gate_message.f
  rw [gopen_eq _ _ _ k (by omega), Option.bind_some, carry_eq _ _ _ _ (open_32 c m n), Option.bind_some]
theorem gsend_eq (c : S24) (m : S44) (n : Int) (p : S76) (k : Nat) (hk : 900 ≤ k) : gate_Send.f k c.f0 c.f1 c.f2 c.f3 c.f4 c.f5 c.f6 c.f7 c.f8 c.f9 c.f10 m.f0 m.f1 m.f2 m.f3 m.f4 m.f5 m.f6 m.f7 m.f8 m.f9 m.f10 m.f11 m.f12 m.f13 m.f14 m.f15 m.f16 m.f17 m.f18.f0 m.f18.f1 m.f18.f2 m.f18.f3 m.f18.f4 m.f18.f5 n p.f0 p.f1 p.f2 p.f3 p.f4 p.f5 = some (sndT (carT p (openV c m n) m.f7 m.f14) (sndS m c.f10.length (openV c m n)) (sndN (openV c m n))) := by
  unfold gate_Send.f
  rw [msg_eq _ _ _ _ k hk, Option.bind_some]
  dsimp only
  rcases open_32 c m n with h | h
  · rw [if_pos h]
    unfold sndT sndS sndN
    rw [if_pos (by omega), if_pos (by omega)]
  · rw [if_neg (by omega), FactsM.gmark_eq _ _ _ (by simp) k (by simp; omega), Option.bind_some, w64 (by omega)]
    unfold sndT sndS sndN
    rw [if_neg (by omega), if_neg (by omega)]
def mayB (p : S76) (o cyc : Int) (t : ByteArray) : Bool := decide (o ≥ 0 ∧ p.f3 = o + 1 ∧ p.f4 = cyc ∧ p.f5.toList = t.toList)
def grdT (p : S76) (o cyc : Int) (t : ByteArray) : PT := if p.f3 = 0 ∨ mayB p o cyc t = true then sameT p else stripT p
theorem gguard_eq (c : S24) (m : S44) (n : Int) (p : S76) (k : Nat) (hk : 900 ≤ k) : gate_Guard.f k c.f0 c.f1 c.f2 c.f3 c.f4 c.f5 c.f6 c.f7 c.f8 c.f9 c.f10 m.f0 m.f1 m.f2 m.f3 m.f4 m.f5 m.f6 m.f7 m.f8 m.f9 m.f10 m.f11 m.f12 m.f13 m.f14 m.f15 m.f16 m.f17 m.f18.f0 m.f18.f1 m.f18.f2 m.f18.f3 m.f18.f4 m.f18.f5 n p.f0 p.f1 p.f2 p.f3 p.f4 p.f5 = some (grdT p (openV c m n) m.f7 m.f14) := by
  unfold gate_Guard.f grdT
  by_cases h0 : p.f3 = 0
  · rw [if_pos h0, if_pos (.inl h0)]
    rfl
  rw [if_neg h0, msg_eq _ _ _ _ k hk, Option.bind_some]
  dsimp only
  rcases open_32 c m n with h | h
  · rw [if_pos h, if_neg (by
      unfold mayB
      rw [h]
      simp [h0])]
    rfl
  · rw [if_neg (by omega)]
    by_cases hm : mayB p (openV c m n) m.f7 m.f14 = true
    · have e1 : p.f3 = 0 ∨ mayB p (openV c m n) m.f7 m.f14 = true := .inr hm
      rw [if_pos e1, if_pos (by
        obtain ⟨_, a, b, d⟩ := of_decide_eq_true hm
        unfold carT
        rw [if_neg (by omega)]
        simp [a, b, d])]
      rfl
    · have e1 : ¬ (p.f3 = 0 ∨ mayB p (openV c m n) m.f7 m.f14 = true) := by rintro (e | e); exact h0 e; exact hm e
      rw [if_neg e1, if_neg (by
        intro e
        refine hm (decide_eq_true ?_)
        unfold carT at e
        rw [if_neg (by omega)] at e
        simp only [Bool.and_eq_true, beq_iff_eq] at e
        exact ⟨h.1, e.2.2.2.1, e.2.2.2.2.1, e.2.2.2.2.2⟩)]
      rfl
end Go.Proofs.Ytdcknaoamjlaiaa.Facts
