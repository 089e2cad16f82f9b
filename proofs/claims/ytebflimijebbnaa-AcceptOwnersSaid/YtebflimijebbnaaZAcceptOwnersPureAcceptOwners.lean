import Derived.Test.YtebflimijebbnaaZAcceptOwnersStmtAcceptOwners
import Derived.Test.YtebflimijebbnaaZAcceptOwnersAllFacts
namespace Go.Proofs.Ytebflimijebbnaa.Pure
open Go.RowKit Go.Proofs.Ytebflimijebbnaa.Gn Go.Proofs.YtebflimijebbnaaW.PrintWords Go.Proofs.YtebflimijebbnaaW.PrintLast Go.Proofs.Ytebflimijebbnaa.Facts Go.Proofs.Ytebflimijebbnaa.Opens
open FactsM (hasB markV cl)
theorem chk_13 {c : S24} {m : S30} {n : Int} {p : S32} (h : chkV c m n p = 0) (s r : ByteArray) (hs : hasB s (p.f3 - 1) = true) : chkV c { m with f11 := s, f10 := r } n p = 13 := by
  obtain ⟨hp, h1, h2, h3, h4, h5, h6, h7, h8⟩ := chk_0 h
  show (if plC c = 0 then (if p.f3 < 1 ∨ p.f3 > (c.f10.length : Int) then (11 : Int) else if m.f8 ≥ 2 then (if owC c (p.f3 - 1) = n then (if inWinB c m (p.f3 - 1) = true then (if p.f4 = m.f7 then (if (p.f5.size : Int) > 16 then 15 else if hasB s (p.f3 - 1) = true then 13 else 0) else 16) else 10) else 12) else 14) else plC c) = 13
  rw [if_pos (plain_iff.2 hp), if_neg (show ¬ (p.f3 < 1 ∨ p.f3 > (c.f10.length : Int)) by omega), if_pos h3, if_pos h4, if_pos h5, if_pos h6, if_neg (show ¬ (p.f5.size : Int) > 16 by omega), if_pos hs]
theorem AcceptOwners : Gn.AcceptOwners.Pure := by
  intro c m n p _ _ _ _
  refine ⟨1003, ?_⟩
  have hj : l24_AcceptOwners.j0 1003 n true c.f0 c.f1 c.f2 c.f3 c.f4 c.f5 c.f6 c.f7 c.f8 c.f9 c.f10 m.f0 m.f1 m.f2 m.f3 m.f4 m.f5 m.f6 m.f7 m.f8 m.f9 m.f10 m.f11 m.f12 m.f13 m.f14 m.f15 m.f16 m.f17 m.f18.f0 m.f18.f1 m.f18.f2 m.f18.f3 m.f18.f4 m.f18.f5 p.f0 p.f1 p.f2 p.f3 p.f4 p.f5 = some true := by
    rw [l24_AcceptOwners.j0, if_pos rfl, known24 1002 (by omega)]
    rfl
  unfold l24_AcceptOwners.f
  by_cases h1 : (m.f11.size : Int) > 100
  · rw [if_pos h1]
    exact hj
  rw [if_neg h1]
  by_cases h2 : (m.f10.size : Int) > 100
  · rw [decide_eq_true h2]
    exact hj
  rw [decide_eq_false h2, l24_AcceptOwners.j0, if_neg (show ¬ (false = true) by decide), take_eq _ _ _ _ 1002 (by omega), Option.bind_some]
  have hE : (⟨#[]⟩ : ByteArray).toList = [] := by decide +kernel
  by_cases h : chkV c m n p = 0
  · have ht : takeV c m n p = (markV m.f11 (cl c.f10.length) [p.f3 - 1], markV m.f10 (cl c.f0) [n], n, p.f3 - 1, p.f4, p.f5, 0) := by unfold takeV; rw [if_pos h]
    have h13 := fun s r hs => chk_13 h s r hs
    obtain ⟨hp, g1, g2, g3, g4, g5, g6, g7, g8⟩ := chk_0 h
    have hl := hp.len
    have hn := hp.n
    have hi : 0 ≤ p.f3 - 1 ∧ p.f3 - 1 < (c.f10.length : Int) := ⟨by omega, by omega⟩
    have hpl := plain_iff.2 hp
    have hm := middle_bd hp hi
    have hg := guard_bd hp
    have hd := hp.d
    have hr := hp.r
    have hdr : 0 ≤ c.f2 * c.f4 ∧ c.f2 * c.f4 ≤ 4 * 64 := mul_bd ⟨by omega, by omega⟩ ⟨by omega, by omega⟩
    have e0 := Int.emod_nonneg (m.f0 - m.f1) (show (65536 : Int) ≠ 0 by decide)
    have e1 := Int.emod_lt_of_pos (m.f0 - m.f1) (show (0 : Int) < 65536 by decide)
    have hw : wiC c (p.f3 - 1) = (lowV c.f2 c.f4 c.f5 c.f6 c.f7 c.f10 (p.f3 - 1), highV c.f2 c.f4 c.f5 c.f6 c.f7 c.f10 (p.f3 - 1)) := by
      show windowV _ _ _ _ _ _ _ _ _ _ _ _ = _
      unfold windowV
      rw [if_pos ⟨hpl, hi⟩]
    have hin := of_decide_eq_true g5
    rw [hw] at hin
    unfold lowV highV at hin
    have ho : ownerV c.f0 c.f1 c.f2 c.f3 c.f4 c.f5 c.f6 c.f7 c.f8 c.f9 c.f10 (p.f3 - 1) = n := g4
    have hnn : 0 ≤ n ∧ n < c.f0 := by
      have := rd_owner _ _ _ _ _ _ _ _ _ _ _ hp hi
      unfold ownerV at ho
      rw [if_pos ⟨hpl, hi⟩] at ho
      rw [← ho]
      exact this
    have hmid : plainE c.f0 c.f1 c.f2 c.f3 c.f4 c.f5 c.f6 c.f7 c.f8 c.f9 c.f10 = 0 ∧ 0 ≤ p.f3 - 1 ∧ p.f3 - 1 < (c.f10.length : Int) := ⟨hpl, hi⟩
    rw [ht]
    dsimp only
    rw [if_pos rfl, ref_diff_eq, Option.bind_some, ref_middle_eq _ _ _ _ _ _ _ _ _ _ _ 1002 (by omega), Option.bind_some, if_pos hmid, if_neg (show ¬ m.f8 < 2 by omega), if_pos rfl, rowner_eq _ _ _ _ _ _ _ _ _ _ _ _ 1002 (by omega), Option.bind_some, if_pos ho, if_pos (by rw [w64 (by omega)]), if_pos g6, if_pos rfl, ref_guard_eq _ _ _ _ _ _ _ _ _ _ _ 1002 (by omega), Option.bind_some, if_pos hpl, w64 (a := (m.f0 - m.f1) % 65536 - middleV c.f6 c.f7 (p.f3 - 1)) (by omega), w64 (a := c.f2 * c.f4) (by omega), w64 (a := (m.f0 - m.f1) % 65536 - middleV c.f6 c.f7 (p.f3 - 1) - c.f2 * c.f4) (by omega), if_neg (by dsimp only at hin; omega), Option.bind_some, w64 (a := -((m.f0 - m.f1) % 65536 - middleV c.f6 c.f7 (p.f3 - 1) - c.f2 * c.f4)) (by omega), decide_eq_false (by dsimp only at hin; omega)]
    have hs1 : hasB (markV m.f11 (cl c.f10.length) [p.f3 - 1]) (p.f3 - 1) = true := mark_at _ _ _ hi.1 hi.2 (by omega)
    have hs2 : hasB (markV m.f10 (cl c.f0) [n]) n = true := mark_at _ _ _ hnn.1 hnn.2 (by omega)
    rw [l24_AcceptOwners.j1, if_neg (show ¬ (false = true) by decide), FactsM.has23_eq, Option.bind_some, if_neg (by rw [g8]; decide), FactsM.has23_eq, Option.bind_some, if_pos hs1, FactsM.has23_eq, Option.bind_some, hs2, l24_AcceptOwners.j2, if_neg (show ¬ ((!true) = true) by decide)]
    have hc := check_eq c { m with f11 := markV m.f11 (cl c.f10.length) [p.f3 - 1], f10 := markV m.f10 (cl c.f0) [n] } n p 1000 (by omega)
    rw [hc, Option.bind_some, if_pos (h13 _ _ hs1), known24 1000 (by omega)]
    rfl
  · have ht : takeV c m n p = ((⟨#[]⟩ : ByteArray), (⟨#[]⟩ : ByteArray), 0, 0, 0, (⟨#[]⟩ : ByteArray), chkV c m n p) := by unfold takeV; rw [if_neg h]
    rw [ht]
    dsimp only
    rw [if_neg h, if_pos hE, if_pos hE, if_pos (by rw [hE]; rfl), known24 1002 (by omega)]
    rfl
end Go.Proofs.Ytebflimijebbnaa.Pure
