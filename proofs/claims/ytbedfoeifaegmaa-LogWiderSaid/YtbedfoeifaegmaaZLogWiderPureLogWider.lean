import Derived.Test.YtbedfoeifaegmaaZLogWiderStmtLogWider
import Derived.Test.YtbedfoeifaegmaaZLogWiderWhoFacts
namespace Go.Proofs.Ytbedfoeifaegmaa.Pure
open Go.RowKit Go.Proofs.Ytbedfoeifaegmaa.Gn Go.Proofs.YtbedfoeifaegmaaW.PrintWords Go.Proofs.YtbedfoeifaegmaaW.PrintLast Go.Proofs.Ytbedfoeifaegmaa.Facts Go.Proofs.Ytbedfoeifaegmaa.Opens
theorem alive_wider {now width wider : Int} (h : width ≤ wider) {e : EN} (ha : aliveB now width e = true) : aliveB now wider e = true := by
  unfold aliveB at *
  simp at *
  omega
theorem prg_wider {now width wider : Int} (h : width ≤ wider) (l : List EN) : prg now width (prg now wider l) = prg now width l := by
  unfold prg
  rw [List.filter_filter]
  congr 1
  funext e
  cases ha : aliveB now width e with
  | true => rw [alive_wider h ha]; rfl
  | false => rfl
theorem who_wider {now width wider : Int} (h : width ≤ wider) (l : List EN) : (whoV now width l).length ≤ (whoV now wider l).length := by
  refine List.Nodup.length_le_of_subset (sortU_nodup _) (fun z hz => ?_)
  refine (sortU_mem z _).2 ?_
  obtain ⟨e, he, rfl⟩ := List.mem_map.1 ((sortU_mem z _).1 hz)
  refine List.mem_map.2 ⟨e, ?_, rfl⟩
  have := List.mem_filter.1 he
  exact List.mem_filter.2 ⟨this.1, alive_wider h this.2⟩
/-- How many there are of each of them, together. -/
def sumC (xs : List Int) : List Int → Nat
  | [] => 0
  | x :: u => xs.count x + sumC xs u
theorem sumC_cons (y : Int) (xs : List Int) : ∀ u : List Int, sumC (y :: xs) u = sumC xs u + u.count y
  | [] => rfl
  | x :: u => by
    rw [sumC, sumC, sumC_cons y xs u, List.count_cons, List.count_cons]
    by_cases h : y = x
    · subst h
      simp
      omega
    · have h' : ¬ x = y := fun e => h e.symm
      simp [h, h']
      omega
theorem sumC_nil : ∀ u : List Int, sumC [] u = 0
  | [] => rfl
  | x :: u => by rw [sumC, sumC_nil u]; simp
theorem sumC_all (u : List Int) (hu : u.Nodup) : ∀ xs : List Int, (∀ x ∈ xs, x ∈ u) → sumC xs u = xs.length
  | [], _ => by
    exact sumC_nil u
  | y :: xs, h => by
    rw [sumC_cons, sumC_all u hu xs (fun x hx => h x (by simp [hx])), hu.count, if_pos (h y (by simp)), List.length_cons]
theorem wider_l0 (l : List EN) (hl : l.length ≤ 100) (hw : WfE l) (now width : Int) (a : List EN) (w : List Int) (hwl : w.length ≤ 100) (hww : ∀ z ∈ w, (Lit.int .i64 z).wf = true) : ∀ (d k j acc : Nat), j + d = w.length → d + 41 ≤ k → acc ≤ j * 100 → acc + sumC ((prg now width l).map (·.f0)) (w.drop j) = a.length → l06_LogWider.l0 k l now width a (acc : Int) w (j : Int) = some true
  | 0, k, j, acc, h, hk, ha, hs => by
    obtain ⟨k, rfl, hk'⟩ := lpeel (show 40 + 1 ≤ k by omega)
    rw [List.drop_of_length_le (by omega), sumC] at hs
    rw [l06_LogWider.l0, if_neg (by omega), if_pos (by omega), known06 k (by omega)]
    rfl
  | d + 1, k, j, acc, h, hk, ha, hs => by
    obtain ⟨k, rfl, hk'⟩ := lpeel hk
    have hj : j < w.length := by omega
    have hc : ((prg now width l).map (·.f0)).count w[j] ≤ 100 := by
      have h1 : ((prg now width l).map (·.f0)).count w[j] ≤ ((prg now width l).map (·.f0)).length := List.count_le_length
      have h2 := prg_len now width l
      rw [List.length_map] at h1
      omega
    rw [List.drop_eq_getElem_cons hj, sumC] at hs
    have e : wrap64 ((acc : Int) + ((ofN now width l w[j] : Nat) : Int)) = ((acc + ofN now width l w[j] : Nat) : Int) := by
      unfold ofN wrap64
      omega
    rw [l06_LogWider.l0, if_pos (by omega), if_pos (by omega), lrd_at w j hj, of_eq l (by omega) hw _ _ _ (hww _ (List.getElem_mem hj)), Option.bind_some, e, lstep (by omega)]
    refine wider_l0 l hl hw now width a w hwl hww d k (j + 1) _ (by omega) hk' ?_ ?_
    · unfold ofN
      omega
    · unfold ofN
      omega
theorem LogWider : Gn.LogWider.Pure := by
  intro l now width wider hl hn hw hwd
  have hE : WfE l := fun x hx => (hl.2 x hx).1
  refine ⟨2000, ?_⟩
  have hj : l06_LogWider.j0 2000 l now width wider true = some true := by
    rw [l06_LogWider.j0, if_pos rfl, known06 1999 (by omega)]
    rfl
  unfold l06_LogWider.f
  by_cases g : (l.length : Int) > 100
  · rw [if_pos g]; exact hj
  rw [if_neg g]
  by_cases g2 : width > wider
  · rw [decide_eq_true g2]; exact hj
  have h1 := prg_len now width l
  have h1' := prg_len now wider l
  have h2 := whoV_len now width l
  have h3 := who_wider (now := now) (show width ≤ wider by omega) l
  rw [decide_eq_false g2, l06_LogWider.j0, if_neg (by decide), purge_eq l (by omega), Option.bind_some, purge_eq l (by omega), Option.bind_some, purge_eq _ (by omega), Option.bind_some, prg_wider (by omega), same_eq _ (by omega) _ (by omega), Option.bind_some, if_pos rfl, count_eq l (by omega) hE, Option.bind_some, count_eq l (by omega) hE, Option.bind_some, decide_eq_false (by omega), l06_LogWider.j1, if_neg (by decide), who_eq l (by omega) hE, Option.bind_some]
  have hs := sumC_all (whoV now width l) (sortU_nodup _) ((prg now width l).map (·.f0)) (fun x hx => (sortU_mem x _).2 hx)
  rw [List.length_map] at hs
  exact wider_l0 l (by omega) hE now width _ _ (by omega) (fun z hz => whoV_wf hE hz) (whoV now width l).length 1998 0 0 (by omega) (by omega) (by omega) (by rw [List.drop_zero]; omega)
end Go.Proofs.Ytbedfoeifaegmaa.Pure
