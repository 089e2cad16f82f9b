import Derived.Test.YtdcknaoamjlaiaaZGateGuardsStmtGateGuards
import Derived.Test.YtdcknaoamjlaiaaZGateGuardsGateSendFacts
import Derived.Test.YtdcknaoamjlaiaaZGateGuardsGateKnown
namespace Go.Proofs.Ytdcknaoamjlaiaa.Pure
open Go.RowKit Go.Proofs.Ytdcknaoamjlaiaa.Gn Go.Proofs.YtdcknaoamjlaiaaW.PrintWords Go.Proofs.YtdcknaoamjlaiaaW.PrintLast Go.Proofs.Ytdcknaoamjlaiaa.Facts Go.Proofs.Ytdcknaoamjlaiaa.Opens
theorem markHas (s : ByteArray) (n : Nat) (l : List Int) (i : Nat) : hasB (FactsM.markV s n l) (i : Int) = (decide (i < n) && (hasB s (i : Int) || l.contains (i : Int))) := by
  by_cases h : i < n
  · rw [FactsM.hasB_in (by rw [FactsM.markV_size]; omega), decide_eq_true h, Bool.true_and]
    have e : bt (FactsM.markV s n l) (i : Int) = FactsM.markI s l i := by
      unfold bt
      have hs : (i : Int).toNat < (FactsM.markV s n l).size := by rw [FactsM.markV_size]; simpa using h
      rw [dif_pos hs]
      have : (FactsM.markV s n l)[(i : Int).toNat]'hs = UInt8.ofNat (FactsM.markI s l i).toNat := by
        show ((((List.range n).map (FactsM.markI s l)).map fun (n : Int) => UInt8.ofNat n.toNat).toArray)[i]'_ = _
        simp
      rw [this]
      unfold FactsM.markI
      split <;> rfl
    rw [e]
    unfold FactsM.markI
    cases (hasB s (i : Int) || l.contains (i : Int)) <;> rfl
  · rw [FactsM.hasB_out (by rw [FactsM.markV_size]; omega), decide_eq_false h]
    rfl
theorem sent_has (s : ByteArray) (y : Int) (hy : 0 ≤ y) : sentV s y = hasB s y := by
  unfold sentV hasB
  simp [hy]
theorem GateGuards : Gn.GateGuards.Pure := by
  intro c m n p _ _ _ _
  refine ⟨1003, ?_⟩
  unfold bellwetherlaw23_GateGuards.f
  by_cases h1 : (m.f12.size : Int) > 100
  · rw [if_pos h1, known23 1003 (by omega)]
    rfl
  rw [if_neg h1, gsend_eq _ _ _ _ 1003 (by omega), Option.bind_some]
  have hb := open_bd c m n
  have hj2 : ∀ s : ByteArray, ∀ o : Int, 0 ≤ o → o < 32 → hasB s o = true → bellwetherlaw23_GateGuards.j2 1001 n s (o + 1) false c.f0 c.f1 c.f2 c.f3 c.f4 c.f5 c.f6 c.f7 c.f8 c.f9 c.f10 m.f0 m.f1 m.f2 m.f3 m.f4 m.f5 m.f6 m.f7 m.f8 m.f9 m.f10 m.f11 m.f12 m.f13 m.f14 m.f15 m.f16 m.f17 m.f18.f0 m.f18.f1 m.f18.f2 m.f18.f3 m.f18.f4 m.f18.f5 = some true := by
    intro s o h0 h2 hs
    rw [bellwetherlaw23_GateGuards.j2, if_neg (by decide)]
    have e := gopen_eq c { m with f12 := s } n 1000 (by omega)
    rw [e, Option.bind_some, w64 (by omega), if_neg (by
      intro e'
      rcases open_bd c { m with f12 := s } n with h | ⟨_, _, _, _, _, h⟩
      · omega
      · rw [e', sent_has _ _ (by omega), show o + 1 - 1 = o by omega, hs] at h
        exact absurd h (by decide)), known23 1000 (by omega)]
    rfl
  have hj1 : ∀ a b d e f g, (openV c m n < 0 → e = 0) → (0 ≤ openV c m n → e = openV c m n + 1) → bellwetherlaw23_GateGuards.j1 1002 n (sndS m c.f10.length (openV c m n)) (sndN (openV c m n)) false c.f0 c.f1 c.f2 c.f3 c.f4 c.f5 c.f6 c.f7 c.f8 c.f9 c.f10 m.f0 m.f1 m.f2 m.f3 m.f4 m.f5 m.f6 m.f7 m.f8 m.f9 m.f10 m.f11 m.f12 m.f13 m.f14 m.f15 m.f16 m.f17 m.f18.f0 m.f18.f1 m.f18.f2 m.f18.f3 m.f18.f4 m.f18.f5 a b d e f g = some true := by
    intro a b d e f g he1 he2
    rw [bellwetherlaw23_GateGuards.j1, if_neg (by decide)]
    rcases hb with h | ⟨_, hp, h0, hl, hn, hs⟩
    · have e0 : sndN (openV c m n) = 0 := by unfold sndN; rw [if_pos (by omega)]
      rw [if_pos e0, if_pos (he1 (by omega)), known23 1001 (by omega)]
      rfl
    · have e0 : sndN (openV c m n) = openV c m n + 1 := by unfold sndN; rw [if_neg (by omega)]
      have h32 := hp.len
      have hS : sndS m c.f10.length (openV c m n) = FactsM.markV m.f12 (FactsM.cl c.f10.length) [openV c m n] := by unfold sndS; rw [if_neg (by omega)]
      have hcl : FactsM.cl c.f10.length = c.f10.length := by have := FactsM.cl_id (a := (c.f10.length : Int)) (by omega) (by omega); omega
      have hh : hasB (sndS m c.f10.length (openV c m n)) (openV c m n) = true := by
        obtain ⟨i, hi⟩ : ∃ i : Nat, openV c m n = i := ⟨(openV c m n).toNat, by omega⟩
        rw [hS, hcl, hi, markHas]
        rw [hi] at hl
        simp
        omega
      rw [e0, if_neg (by omega), rowner_eq _ _ _ _ _ _ _ _ _ _ _ _ 1001 (by omega), Option.bind_some, w64 (by omega), show openV c m n + 1 - 1 = openV c m n by omega]
      have ho : ownerV c.f0 c.f1 c.f2 c.f3 c.f4 c.f5 c.f6 c.f7 c.f8 c.f9 c.f10 (openV c m n) = n := by
        unfold ownerV
        rw [if_pos ⟨plain_iff.2 hp, h0, hl⟩, hn]
      rw [if_pos ho, if_pos (he2 h0), FactsM.has23_eq, Option.bind_some, if_neg (by rw [← sent_has _ _ h0, hs]; decide), FactsM.has23_eq, Option.bind_some, if_pos hh, hS, FactsM.markV_size, hcl, bne_self_eq_false, ← hcl, ← hS]
      exact hj2 _ _ h0 (by omega) hh
  have hq : ∀ q : S76, (q.f0, q.f1, q.f2, q.f3, q.f4, q.f5) = carT p (openV c m n) m.f7 m.f14 → grdT q (openV c m n) m.f7 m.f14 = sameT q ∧ (openV c m n < 0 → q.f3 = 0) ∧ (0 ≤ openV c m n → q.f3 = openV c m n + 1) ∧ stripT q = stripT p := by
    intro q e
    unfold carT at e
    by_cases h : openV c m n < 0
    · rw [if_pos h] at e
      unfold stripT at e
      simp only [Prod.mk.injEq] at e
      obtain ⟨a, b, d, e3, e4, e5⟩ := e
      refine ⟨?_, fun _ => e3, fun h' => by omega, ?_⟩
      · unfold grdT
        rw [if_pos (.inl e3)]
      · unfold stripT
        rw [a, b, d]
    · rw [if_neg h] at e
      simp only [Prod.mk.injEq] at e
      obtain ⟨a, b, d, e3, e4, e5⟩ := e
      refine ⟨?_, fun h' => absurd h' h, fun _ => e3, ?_⟩
      · unfold grdT
        have hm : mayB q (openV c m n) m.f7 m.f14 = true := decide_eq_true ⟨by omega, e3, e4, by rw [e5]⟩
        rw [if_pos (.inr hm)]
      · unfold stripT
        rw [a, b, d]
  obtain ⟨q, hqe⟩ : ∃ q : S76, (q.f0, q.f1, q.f2, q.f3, q.f4, q.f5) = carT p (openV c m n) m.f7 m.f14 := ⟨⟨_, _, _, _, _, _⟩, rfl⟩
  obtain ⟨q1, q2, q3, q4⟩ := hq q hqe
  rw [← hqe]
  unfold sndT
  dsimp only
  rw [gguard_eq c m n q 1003 (by omega), Option.bind_some, q1]
  unfold sameT
  dsimp only
  have hj0 : bellwetherlaw23_GateGuards.j0 1003 n (sndS m c.f10.length (openV c m n)) (sndN (openV c m n)) false c.f0 c.f1 c.f2 c.f3 c.f4 c.f5 c.f6 c.f7 c.f8 c.f9 c.f10 m.f0 m.f1 m.f2 m.f3 m.f4 m.f5 m.f6 m.f7 m.f8 m.f9 m.f10 m.f11 m.f12 m.f13 m.f14 m.f15 m.f16 m.f17 m.f18.f0 m.f18.f1 m.f18.f2 m.f18.f3 m.f18.f4 m.f18.f5 p.f0 p.f1 p.f2 p.f3 p.f4 p.f5 q.f0 q.f1 q.f2 q.f3 q.f4 q.f5 = some true := by
    rw [bellwetherlaw23_GateGuards.j0, if_neg (by decide), gguard_eq _ _ _ _ 1002 (by omega), Option.bind_some]
    by_cases hg : (grdT p (openV c m n) m.f7 m.f14).2.2.2.1 = 0
    · rw [if_pos hg]
      exact hj1 _ _ _ _ _ _ q2 q3
    · rw [if_neg hg]
      unfold grdT at hg ⊢
      by_cases hc : p.f3 = 0 ∨ mayB p (openV c m n) m.f7 m.f14 = true
      · rw [if_pos hc] at hg ⊢
        unfold sameT at hg ⊢
        dsimp only at hg ⊢
        rcases hc with hc | hc
        · exact absurd hc hg
        obtain ⟨a0, a3, a4, a5⟩ := of_decide_eq_true hc
        rcases hb with h | ⟨_, hp, h0, hl, hn, hs⟩
        · omega
        have h32 := hp.len
        rw [if_neg (by simp), rowner_eq _ _ _ _ _ _ _ _ _ _ _ _ 1002 (by omega), Option.bind_some, a3, w64 (by omega), show openV c m n + 1 - 1 = openV c m n by omega]
        have ho : ownerV c.f0 c.f1 c.f2 c.f3 c.f4 c.f5 c.f6 c.f7 c.f8 c.f9 c.f10 (openV c m n) = n := by
          unfold ownerV
          rw [if_pos ⟨plain_iff.2 hp, h0, hl⟩, hn]
        rw [if_pos ho, if_pos a4, a5, bne_self_eq_false]
        exact hj1 _ _ _ _ _ _ q2 q3
      · rw [if_neg hc] at hg
        exact absurd rfl hg
  rw [if_neg (by simp)]
  have hs1 : ∀ x : S76, bellwetherref10_Strip.f x.f0 x.f1 x.f2 x.f3 x.f4 x.f5 = some (stripT x) := fun _ => rfl
  rw [hs1 q, Option.bind_some, hs1 p, Option.bind_some, q4, show (!((stripT p).1.toList == (stripT p).1.toList) || (!((stripT p).2.1 == (stripT p).2.1) || (!((stripT p).2.2.1.toList == (stripT p).2.2.1.toList) || (!((stripT p).2.2.2.1 == (stripT p).2.2.2.1) || (!((stripT p).2.2.2.2.1 == (stripT p).2.2.2.2.1) || (!((stripT p).2.2.2.2.2.toList == (stripT p).2.2.2.2.2.toList))))))) = false by simp]
  exact hj0
end Go.Proofs.Ytdcknaoamjlaiaa.Pure
