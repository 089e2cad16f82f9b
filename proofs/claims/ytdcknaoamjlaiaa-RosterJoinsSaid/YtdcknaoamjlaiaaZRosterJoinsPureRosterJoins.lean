import Derived.Test.YtdcknaoamjlaiaaZRosterJoinsStmtRosterJoins
import Derived.Test.YtdcknaoamjlaiaaZRosterJoinsRosterFacts
import Derived.Test.YtdcknaoamjlaiaaZRosterJoinsRosterLists
import Derived.Test.YtdcknaoamjlaiaaZRosterJoinsRosterKnown
namespace Go.Proofs.Ytdcknaoamjlaiaa.Pure
open Go.RowKit Go.Proofs.Ytdcknaoamjlaiaa.Gn Go.Proofs.YtdcknaoamjlaiaaW.PrintWords Go.Proofs.YtdcknaoamjlaiaaW.PrintLast Go.Proofs.Ytdcknaoamjlaiaa.Facts Go.Proofs.Ytdcknaoamjlaiaa.Opens
theorem joins_l0 (c0 c1 c2 c3 c4 c5 c6 c7 c8 c9 : Int) (c10 : List Int) (a b : ByteArray) (n : Int) (h0 : 0 ≤ c0) (h1 : c0 ≤ 64) : ∀ (d k j : Nat), ((j + d : Nat) : Int) = c0 → d + 300 ≤ k → bellwetherlaw25_RosterJoins.l0 k a b n (markV a (cl c0) [n]) (markV ⟨#[]⟩ (cl c0) (whr (fun i => hasB a i && hasB b i) (cl c0 : Int))) (j : Int) c0 c1 c2 c3 c4 c5 c6 c7 c8 c9 c10 = some true
  | 0, k, j, h, hk => by
    obtain ⟨k, rfl, hk'⟩ := peel (m := 299) (by omega)
    have hc := cl_id h0 h1
    have e1 : markV ⟨#[]⟩ (cl c0) (whr (fun i => hasB b i && hasB a i) (cl c0 : Int)) = markV ⟨#[]⟩ (cl c0) (whr (fun i => hasB a i && hasB b i) (cl c0 : Int)) := by
      rw [whr_congr (p := fun i => hasB b i && hasB a i) (q := fun i => hasB a i && hasB b i) (cl c0) (fun i _ => Bool.and_comm _ _)]
    have e2 : markV ⟨#[]⟩ (cl c0) (whr (fun i => hasB a i && hasB a i) (cl c0 : Int)) = markV a (cl c0) [] := by
      refine markV_congr fun i hi => ?_
      rw [whr_contains _ _ _ hi, hasB_empty]
      simp
    rw [bellwetherlaw25_RosterJoins.l0, if_neg (by omega), markV_size, if_pos hc, both_eq c0 c1 c2 c3 c4 c5 c6 c7 c8 c9 c10 b a k (by omega), Option.bind_some, e1, if_pos rfl, both_eq c0 c1 c2 c3 c4 c5 c6 c7 c8 c9 c10 a a k (by omega), Option.bind_some, e2, mark_eq c0 c1 c2 c3 c4 c5 c6 c7 c8 c9 c10 a [] (by simp) k (by simp; omega), Option.bind_some, if_pos rfl, known25 k (by omega)]
    rfl
  | d + 1, k, j, h, hk => by
    obtain ⟨k, rfl, hk'⟩ := peel (m := d + 300) (by omega)
    have hc := cl_id h0 h1
    have hj : j < cl c0 := by omega
    have ih := joins_l0 c0 c1 c2 c3 c4 c5 c6 c7 c8 c9 c10 a b n h0 h1 d k (j + 1) (by omega) hk'
    have x1 : hasB (markV a (cl c0) [n]) (j : Int) = (hasB a (j : Int) || ((j : Int) == n)) := by
      rw [has_mark, decide_eq_true hj, Bool.true_and, List.contains_cons]
      simp
    have x2 : hasB (markV ⟨#[]⟩ (cl c0) (whr (fun i => hasB a i && hasB b i) (cl c0 : Int))) (j : Int) = (hasB a (j : Int) && hasB b (j : Int)) := by
      rw [has_mark, decide_eq_true hj, whr_contains _ _ _ hj, hasB_empty]
      simp
    rw [bellwetherlaw25_RosterJoins.l0, if_pos (by omega)]
    simp only [has_eq, Option.bind_some]
    rw [x1, x2, w64_step (by omega), ih]
    cases hasB a (j : Int) <;> cases hasB b (j : Int) <;> by_cases e : (j : Int) = n <;> simp [e]
theorem RosterJoins : Gn.RosterJoins.Pure := by
  intro c a b n _ _ _ _
  refine ⟨1000, ?_⟩
  have hj : bellwetherlaw25_RosterJoins.j0 1000 a b n true c.f0 c.f1 c.f2 c.f3 c.f4 c.f5 c.f6 c.f7 c.f8 c.f9 c.f10 = some true := by
    rw [bellwetherlaw25_RosterJoins.j0, if_pos rfl, known25 999 (by omega)]
    rfl
  unfold bellwetherlaw25_RosterJoins.f
  by_cases h0 : c.f0 < 0
  · rw [if_pos h0]; exact hj
  rw [if_neg h0]
  by_cases h1 : c.f0 > 64
  · rw [if_pos h1]; exact hj
  rw [if_neg h1]
  by_cases h2 : (a.size : Int) > 100
  · rw [if_pos h2]; exact hj
  rw [if_neg h2]
  by_cases h3 : (b.size : Int) > 100
  · rw [decide_eq_true h3]; exact hj
  rw [decide_eq_false h3, bellwetherlaw25_RosterJoins.j0, if_neg (by decide), mark_eq _ _ _ _ _ _ _ _ _ _ _ _ _ (by simp) 999 (by simp), Option.bind_some, both_eq _ _ _ _ _ _ _ _ _ _ _ _ _ 999 (by omega), Option.bind_some]
  exact joins_l0 _ _ _ _ _ _ _ _ _ _ _ a b n (by omega) (by omega) (cl c.f0) 999 0 (by rw [Nat.zero_add]; exact cl_id (by omega) (by omega)) (by have := cl_le c.f0; omega)
end Go.Proofs.Ytdcknaoamjlaiaa.Pure
