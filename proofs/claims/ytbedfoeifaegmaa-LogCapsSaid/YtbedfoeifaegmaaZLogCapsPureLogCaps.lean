import Derived.Test.YtbedfoeifaegmaaZLogCapsStmtLogCaps
import Derived.Test.YtbedfoeifaegmaaZLogCapsWhoFacts
namespace Go.Proofs.Ytbedfoeifaegmaa.Pure
open Go.RowKit Go.Proofs.Ytbedfoeifaegmaa.Gn Go.Proofs.YtbedfoeifaegmaaW.PrintWords Go.Proofs.YtbedfoeifaegmaaW.PrintLast Go.Proofs.Ytbedfoeifaegmaa.Facts Go.Proofs.Ytbedfoeifaegmaa.Opens
theorem addV_suffix (l : List EN) (e : EN) : (addV l e).1 <:+ l ++ [e] := by
  unfold addV
  split
  · exact ⟨l.take (l.length - 63), by rw [← List.append_assoc, List.take_append_drop]⟩
  · exact List.suffix_refl _
theorem addV_last (l : List EN) (e : EN) : ∃ u, (addV l e).1 = u ++ [e] := by
  unfold addV
  split
  · exact ⟨_, rfl⟩
  · exact ⟨_, rfl⟩
theorem addV_full (l : List EN) (e : EN) : (addV l e).2 = decide (l.length ≥ 64) := by
  unfold addV
  split
  · rename_i h; exact (decide_eq_true h).symm
  · rename_i h; exact (decide_eq_false h).symm
theorem caps_l0 (l more : List EN) (hl : l.length ≤ 100) (hm : more.length ≤ 100) : ∀ (d k j : Nat) (now : List EN), j + d = more.length → d + 240 ≤ k → now.length ≤ 100 → now <:+ l ++ more.take j → l06_LogCaps.l0 k l more now (j : Int) = some true
  | 0, k, j, now, h, hk, hn, hs => by
    obtain ⟨k, rfl, hk'⟩ := lpeel (show 239 + 1 ≤ k by omega)
    have hkn := known06 k (by omega)
    rw [List.take_of_length_le (by omega)] at hs
    have hlen := hs.length_le
    have hlen' : (l ++ more).length = l.length + more.length := by simp
    rw [l06_LogCaps.l0, if_neg (by omega)]
    by_cases g : (more.length : Int) = 0
    · rw [if_pos g, hkn]; rfl
    have e : wrap64 (((l ++ more).length : Int) - (now.length : Int)) = (((l ++ more).length - now.length : Nat) : Int) := by unfold wrap64; omega
    rw [if_neg g, if_pos (by simp; omega), Option.bind_some, List.nil_append, if_pos (by omega), Option.bind_some, e, if_pos (by omega), if_pos (by omega), Int.toNat_natCast, ← List.suffix_iff_eq_drop.1 hs, same_eq now (by omega) k (by omega), Option.bind_some, if_pos rfl, hkn]
    rfl
  | d + 1, k, j, now, h, hk, hn, hs => by
    obtain ⟨k, rfl, hk'⟩ := lpeel (show d + 240 + 1 ≤ k by omega)
    have hj : j < more.length := by omega
    have ha := addV_len now more[j]
    obtain ⟨u, hu⟩ := addV_last now more[j]
    have hul : (addV now more[j]).1.length = u.length + 1 := by rw [hu]; simp
    have hpos : ((addV now more[j]).1.length : Int) - 1 = ((u.length : Nat) : Int) := by omega
    have e : wrap64 (((addV now more[j]).1.length : Int) - 1) = ((u.length : Nat) : Int) := by unfold wrap64; omega
    have el : rd_T43 (addV now more[j]).1 ((u.length : Nat) : Int) = more[j] := by
      rw [rd_entry _ _ (by omega)]
      simp [hu]
    have hs' : (addV now more[j]).1 <:+ l ++ more.take (j + 1) := by
      refine (addV_suffix now more[j]).trans ?_
      rw [List.take_succ_eq_append_getElem hj, ← List.append_assoc]
      obtain ⟨t, ht⟩ := hs
      exact ⟨t, by rw [← ht, List.append_assoc]⟩
    have hgo := caps_l0 l more hl hm d k (j + 1) (addV now more[j]).1 (by omega) hk' (by omega) hs'
    have ee : (⟨more[j].f0, more[j].f1⟩ : EN) = more[j] := rfl
    rw [l06_LogCaps.l0, if_pos (by omega), if_pos (by omega), rd_entry more j hj, add_eq now (by omega), Option.bind_some, ee, if_neg (by omega), if_neg (by omega), e, if_pos (by omega), if_pos (by omega), el, if_neg (by simp), addV_full, lstep (by omega)]
    by_cases g : now.length ≥ 64
    · rw [if_pos (decide_eq_true g), if_pos (by omega)]
      exact hgo
    · rw [if_neg (by simpa using g), if_neg (by omega)]
      exact hgo
theorem LogCaps : Gn.LogCaps.Pure := by
  intro l more hl hm
  refine ⟨2000, ?_⟩
  have hj : l06_LogCaps.j0 2000 l more true = some true := by
    rw [l06_LogCaps.j0, if_pos rfl, known06 1999 (by omega)]
    rfl
  unfold l06_LogCaps.f
  by_cases g : (l.length : Int) > 100
  · rw [if_pos g]; exact hj
  rw [if_neg g]
  by_cases g2 : (more.length : Int) > 100
  · rw [decide_eq_true g2]; exact hj
  rw [decide_eq_false g2, l06_LogCaps.j0, if_neg (by decide)]
  exact caps_l0 l more (by omega) (by omega) more.length 1999 0 l (by omega) (by omega) (by omega) (by simp)
end Go.Proofs.Ytbedfoeifaegmaa.Pure
