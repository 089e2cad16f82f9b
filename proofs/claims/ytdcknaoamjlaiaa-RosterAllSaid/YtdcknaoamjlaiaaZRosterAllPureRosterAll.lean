import Derived.Test.YtdcknaoamjlaiaaZRosterAllStmtRosterAll
import Derived.Test.YtdcknaoamjlaiaaZRosterAllRosterFacts
import Derived.Test.YtdcknaoamjlaiaaZRosterAllRosterLists
import Derived.Test.YtdcknaoamjlaiaaZRosterAllRosterKnown
namespace Go.Proofs.Ytdcknaoamjlaiaa.Pure
open Go.RowKit Go.Proofs.Ytdcknaoamjlaiaa.Gn Go.Proofs.YtdcknaoamjlaiaaW.PrintWords Go.Proofs.YtdcknaoamjlaiaaW.PrintLast Go.Proofs.Ytdcknaoamjlaiaa.Facts Go.Proofs.Ytdcknaoamjlaiaa.Opens
theorem rise_get {l : List Int} (h : l.Pairwise (· < ·)) {i : Nat} (h0 : 0 < i) (h1 : i < l.length) : l[i - 1] < l[i] := by
  have := List.pairwise_iff_getElem.1 h (i - 1) i (by omega) h1 (by omega)
  exact this
theorem all_l1 (c0 c1 c2 c3 c4 c5 c6 c7 c8 c9 : Int) (c10 : List Int) (s : ByteArray) (hs : s.size = cl c0) (hc : cl c0 ≤ 64) (hsame : markV ⟨#[]⟩ (cl c0) (whr (hasB s) (s.size : Int)) = s) : ∀ (d k j : Nat), j + d = (whr (fun i => !hasB s i) (cl c0 : Int)).length → d + 300 ≤ k → bellwetherlaw25_RosterAll.l1 k s (whr (hasB s) (s.size : Int)) (whr (fun i => !hasB s i) (cl c0 : Int)) (j : Int) c0 c1 c2 c3 c4 c5 c6 c7 c8 c9 c10 = some true
  | 0, k, j, h, hk => by
    obtain ⟨k, rfl, hk'⟩ := peel (m := 299) (by omega)
    have hl := whr_len (hasB s) s.size
    rw [bellwetherlaw25_RosterAll.l1, if_neg (by omega), mark_eq c0 c1 c2 c3 c4 c5 c6 c7 c8 c9 c10 _ _ (by omega) k (by omega), Option.bind_some, hsame, if_pos rfl, known25 k (by omega)]
    rfl
  | d + 1, k, j, h, hk => by
    obtain ⟨k, rfl, hk'⟩ := peel (m := d + 300) (by omega)
    have ih := all_l1 c0 c1 c2 c3 c4 c5 c6 c7 c8 c9 c10 s hs hc hsame d k (j + 1) (by omega) hk'
    have hl := whr_len (fun i => !hasB s i) (cl c0)
    have hj : j < (whr (fun i => !hasB s i) (cl c0 : Int)).length := by omega
    have hm : hasB s (whr (fun i => !hasB s i) (cl c0 : Int))[j] = false := by
      have := ((whr_mem (fun i => !hasB s i) (cl c0) _).1 (List.getElem_mem hj)).2.2
      simpa using this
    rw [bellwetherlaw25_RosterAll.l1, if_pos (by omega), if_pos (by omega), has_eq, Option.bind_some, rd_at _ j hj, hm, if_neg (by decide), w64_step (by omega), ih]
    by_cases e : j = 0
    · rw [if_neg (by omega)]
    · have r := rise_get (whr_rise (fun i => !hasB s i) (cl c0)) (i := j) (by omega) hj
      rw [if_pos (by omega), show wrap64 ((j : Int) - 1) = ((j - 1 : Nat) : Int) from by rw [w64 (by omega)]; omega, if_pos (by omega), if_pos (by omega), rd_at _ (j - 1) (by omega), if_neg (by omega)]
theorem all_l0 (c0 c1 c2 c3 c4 c5 c6 c7 c8 c9 : Int) (c10 : List Int) (s : ByteArray) (hs : s.size = cl c0) (hc : cl c0 ≤ 64) (hsame : markV ⟨#[]⟩ (cl c0) (whr (hasB s) (s.size : Int)) = s) : ∀ (d k j : Nat), j + d = (whr (hasB s) (s.size : Int)).length → d + 400 ≤ k → bellwetherlaw25_RosterAll.l0 k s (whr (hasB s) (s.size : Int)) (whr (fun i => !hasB s i) (cl c0 : Int)) (j : Int) c0 c1 c2 c3 c4 c5 c6 c7 c8 c9 c10 = some true
  | 0, k, j, h, hk => by
    obtain ⟨k, rfl, hk'⟩ := peel (m := 399) (by omega)
    have hl := whr_len (fun i => !hasB s i) (cl c0)
    rw [bellwetherlaw25_RosterAll.l0, if_neg (by omega)]
    exact all_l1 c0 c1 c2 c3 c4 c5 c6 c7 c8 c9 c10 s hs hc hsame _ k 0 (Nat.zero_add _) (by omega)
  | d + 1, k, j, h, hk => by
    obtain ⟨k, rfl, hk'⟩ := peel (m := d + 400) (by omega)
    have ih := all_l0 c0 c1 c2 c3 c4 c5 c6 c7 c8 c9 c10 s hs hc hsame d k (j + 1) (by omega) hk'
    have hl := whr_len (hasB s) s.size
    have hj : j < (whr (hasB s) (s.size : Int)).length := by omega
    have hm : hasB s (whr (hasB s) (s.size : Int))[j] = true := ((whr_mem (hasB s) s.size _).1 (List.getElem_mem hj)).2.2
    rw [bellwetherlaw25_RosterAll.l0, if_pos (by omega), if_pos (by omega), has_eq, Option.bind_some, rd_at _ j hj, hm, if_pos rfl, w64_step (by omega), ih]
    by_cases e : j = 0
    · rw [if_neg (by omega)]
    · have r := rise_get (whr_rise (hasB s) s.size) (i := j) (by omega) hj
      rw [if_pos (by omega), show wrap64 ((j : Int) - 1) = ((j - 1 : Nat) : Int) from by rw [w64 (by omega)]; omega, if_pos (by omega), if_pos (by omega), rd_at _ (j - 1) (by omega), if_neg (by omega)]
theorem RosterAll : Gn.RosterAll.Pure := by
  intro c a _ _
  refine ⟨1000, ?_⟩
  have hj : bellwetherlaw25_RosterAll.j0 1000 a true c.f0 c.f1 c.f2 c.f3 c.f4 c.f5 c.f6 c.f7 c.f8 c.f9 c.f10 = some true := by
    rw [bellwetherlaw25_RosterAll.j0, if_pos rfl, known25 999 (by omega)]
    rfl
  unfold bellwetherlaw25_RosterAll.f
  by_cases h0 : c.f0 < 0
  · rw [if_pos h0]; exact hj
  rw [if_neg h0]
  by_cases h1 : c.f0 > 64
  · rw [if_pos h1]; exact hj
  rw [if_neg h1]
  by_cases h2 : (a.size : Int) > 100
  · rw [decide_eq_true h2]; exact hj
  have hc := cl_le c.f0
  have hid := cl_id (a := c.f0) (by omega) (by omega)
  obtain ⟨s, hse⟩ : ∃ s, s = markV a (cl c.f0) [] := ⟨_, rfl⟩
  have hs : s.size = cl c.f0 := by rw [hse, markV_size]
  have hb := whr_both (hasB s) (cl c.f0)
  have hl := whr_len (hasB s) s.size
  have hsame : markV ⟨#[]⟩ (cl c.f0) (whr (hasB s) (s.size : Int)) = s := by
    conv => rhs; rw [hse]
    refine markV_congr fun i hi => ?_
    rw [hs, whr_contains _ _ _ hi, hasB_empty, hse, has_mark, decide_eq_true hi]
    rfl
  rw [decide_eq_false h2, bellwetherlaw25_RosterAll.j0, if_neg (by decide), mark_eq _ _ _ _ _ _ _ _ _ _ _ _ _ (by simp) 999 (by simp), Option.bind_some, ← hse, nodes_eq s (by omega), Option.bind_some, lacks_eq _ _ _ _ _ _ _ _ _ _ _ _ 999 (by omega), Option.bind_some, if_pos (by omega), count_eq s (by omega), Option.bind_some, if_pos rfl]
  rw [hs] at hl
  have e : (wrap64 (((whr (hasB s) (s.size : Int)).length : Int) + ((whr (fun i => !hasB s i) (cl c.f0 : Int)).length : Int)) != c.f0) = false := by
    rw [hs, w64 (by omega)]
    simp
    omega
  rw [e, bellwetherlaw25_RosterAll.j1, if_neg (by decide)]
  exact all_l0 _ _ _ _ _ _ _ _ _ _ _ s hs hc hsame _ 998 0 (Nat.zero_add _) (by rw [hs]; omega)
end Go.Proofs.Ytdcknaoamjlaiaa.Pure
