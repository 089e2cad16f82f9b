import Derived.Test.YthdoghhmooodjaaZPremiseAfterStmtPremiseAfter
import Derived.Test.YthdoghhmooodjaaZPremiseAfterPremiseFacts
namespace Go.Proofs.Ythdoghhmooodjaa.Pure
open Go.RowKit Go.Proofs.Ythdoghhmooodjaa.Gn Go.Proofs.YthdoghhmooodjaaW.PrintWords Go.Proofs.YthdoghhmooodjaaW.PrintLast Go.Proofs.Ythdoghhmooodjaa.Facts Go.Proofs.Ythdoghhmooodjaa.Opens
/-- A tick with one burst. -/
def burT (x : ByteArray) : TK := ⟨[], [], [], [⟨0, x⟩], [], []⟩
theorem burT_tiny (x : ByteArray) : Tiny (burT x) := ⟨Nat.zero_le _, Nat.zero_le _, Nat.zero_le _, (show 1 ≤ 1000 by decide), Nat.zero_le _, Nat.zero_le _⟩
theorem burT_zero {N : Int} (hN : 4 ≤ N ∧ N ≤ 13) (x : ByteArray) (hx : (x.size : Int) ≤ 8000) : tickV N (burT x) = 0 := by
  have hq := mul_bd (x := N) (y := N) (a := 13) (b := 13) ⟨by omega, hN.2⟩ ⟨by omega, hN.2⟩
  have h1 : numsV N (burT x) = true := by
    show ((decide ((0 : Int) ≤ N) && true) && (decide ((0 : Int) ≤ wrap64 (N * N)) && true) && true) = true
    rw [decide_eq_true (show (0 : Int) ≤ N by omega), decide_eq_true (show (0 : Int) ≤ wrap64 (N * N) by generalize N * N = q at hq ⊢; unfold wrap64; omega)]
    rfl
  have h2 : ¬ fullV (burT x) := by
    show ¬ ((0 : Int) > 40 ∨ (1 : Int) > 40 ∨ (0 : Int) > 40 ∨ (0 : Int) > 40)
    omega
  have h3 : namedV N (burT x) = true := by
    show (true && true && (isV N 0 && true) && true) = true
    have : isV N 0 = true := by
      show (decide ((0 : Int) ≤ 0) && decide ((0 : Int) < clV N)) = true
      rw [decide_eq_true (show (0 : Int) < clV N by unfold clV; omega)]
      rfl
    rw [this]
    rfl
  have h4 : shortV (burT x) = true := by
    show (true && (true && (script_short2B (⟨0, x⟩ : BU) && true))) = true
    have : script_short2B (⟨0, x⟩ : BU) = true := decide_eq_true hx
    rw [this]
    rfl
  unfold tickV tailV restV
  rw [if_pos h1, if_neg h2, if_pos h3, if_pos h4]
  rfl
theorem bur_loud (s : SC) (x : ByteArray) : calmB (withT s (s.f3 ++ [burT x])) (s.f3.length : Int) = false := by
  unfold calmB quietB
  rw [show tkV (withT s (s.f3 ++ [burT x])) (s.f3.length : Int) = burT x from rd_last s.f3 (burT x)]
  rfl
theorem rd_with (s : SC) (t : TK) (n : Nat) (h : n < s.f3.length) : tkV (withT s (s.f3 ++ [t])) (n : Int) = tkV s (n : Int) := by
  show rd_T44 (s.f3 ++ [t]) (n : Int) = rd_T44 s.f3 (n : Int)
  rw [rd_tick _ n (by simp; omega), rd_tick _ n h, List.getElem_append_left h]
theorem isT_with (s : SC) (t : TK) (n : Nat) (h : n < s.f3.length) : isT (withT s (s.f3 ++ [t])) (n : Int) = isT s (n : Int) := by
  rw [isT_true (s := s) (t := (n : Int)) (by omega) (by omega), isT_true (s := withT s (s.f3 ++ [t])) (t := (n : Int)) (by omega) (by show (n : Int) < ((s.f3 ++ [t]).length : Int); rw [List.length_append, List.length_singleton]; omega)]
theorem calm_with (s : SC) (t : TK) (n : Nat) (h : n < s.f3.length) : calmB (withT s (s.f3 ++ [t])) (n : Int) = calmB s (n : Int) := by
  have hu : ∀ i, steadyB (withT s (s.f3 ++ [t])) (n : Int) i = steadyB s (n : Int) i := fun i => by
    unfold steadyB unitsV
    rw [rd_with s t n h, isT_with s t n h]
    rfl
  have hd : ∀ i, swiftB (withT s (s.f3 ++ [t])) (n : Int) i = swiftB s (n : Int) i := fun i => by
    funext j
    unfold swiftB delayV
    rw [rd_with s t n h, isT_with s t n h]
    rfl
  unfold calmB quietB
  rw [rd_with s t n h]
  simp only [hu, hd]
  rfl
theorem last_with (s : SC) (t : TK) : ∀ n : Nat, n ≤ s.f3.length → lastV (withT s (s.f3 ++ [t])) n = lastV s n
  | 0, _ => rfl
  | n + 1, h => by
    unfold lastV
    rw [calm_with s t n (by omega), last_with s t n (by omega)]
/-- A tick that lists nothing is calm, in what is right. -/
theorem none_calm (s : SC) (hr : rightV s = 0) : calmB (withT s (s.f3 ++ [noT])) (s.f3.length : Int) = true := by
  have hp := plain_iff.1 (right_plain (right_zero hr).1)
  have hc : clV s.f0.f0 = s.f0.f0 := by have := hp.n; unfold clV; omega
  have ht : tkV (withT s (s.f3 ++ [noT])) (s.f3.length : Int) = noT := rd_last s.f3 noT
  have hi : isT (withT s (s.f3 ++ [noT])) (s.f3.length : Int) = true := isT_true (by omega) (by show (s.f3.length : Int) < ((s.f3 ++ [noT]).length : Int); rw [List.length_append, List.length_singleton]; omega)
  have hh : ∀ i, i ∈ honV (withT s (s.f3 ++ [noT])) → 0 ≤ i ∧ i < clV s.f0.f0 := fun i h => by
    have := honF_mem s.f1 _ 0 i h
    have hq := clV_bd s.f0.f0
    have e : (withT s (s.f3 ++ [noT])).f0.f0 = s.f0.f0 := rfl
    rw [e] at this
    omega
  have hv : ∀ m, 0 ≤ m ∧ m < clV s.f0.f0 → isV s.f0.f0 m = true := fun m hm => by
    show (decide (0 ≤ m) && decide (m < clV s.f0.f0)) = true
    rw [decide_eq_true hm.1, decide_eq_true hm.2]
    rfl
  have hu : ∀ i, 0 ≤ i ∧ i < clV s.f0.f0 → unitsV (withT s (s.f3 ++ [noT])) (s.f3.length : Int) i = s.f0.f4 := fun i h => by
    unfold unitsV
    rw [hi, show isV (withT s (s.f3 ++ [noT])).f0.f0 i = true from hv i h, Bool.and_self, if_pos rfl, ht]
    exact if_neg (show ¬ i < (0 : Int) by omega)
  have hd : ∀ i j, 0 ≤ i ∧ i < clV s.f0.f0 → 0 ≤ j ∧ j < clV s.f0.f0 → delayV (withT s (s.f3 ++ [noT])) (s.f3.length : Int) i j = s.f0.f2 := fun i j h h' => by
    have hq := (place_w (hv i h) (hv j h')).2
    unfold delayV
    rw [hi, show isV (withT s (s.f3 ++ [noT])).f0.f0 i = true from hv i h, show isV (withT s (s.f3 ++ [noT])).f0.f0 j = true from hv j h', Bool.and_self, Bool.and_self, if_pos rfl, ht]
    exact if_neg (show ¬ i * clV s.f0.f0 + j < (0 : Int) by omega)
  have hR := hp.r
  have hD := hp.dr
  have hD2 := hp.d
  unfold calmB quietB
  rw [ht]
  show (true && true && _) = true
  rw [Bool.and_self, Bool.true_and, List.all_eq_true]
  intro i h
  have h' := hh i h
  rw [Bool.and_eq_true, List.all_eq_true]
  refine ⟨?_, fun j g => ?_⟩
  · unfold steadyB
    rw [hu i h']
    refine decide_eq_true ?_
    show wrap64 (s.f0.f4 - s.f0.f5) ≤ s.f0.f4 ∧ s.f0.f4 ≤ wrap64 (s.f0.f4 + s.f0.f5)
    unfold wrap64
    omega
  · unfold swiftB
    rw [hd i j h' (hh j g)]
    refine decide_eq_true ?_
    show 1 ≤ s.f0.f2 ∧ s.f0.f2 ≤ s.f0.f2
    omega
theorem after_tail (s : SC) (x : ByteArray) (hx : (x.size : Int) ≤ 8000) (hs : Few 2900 s) (hT : s.f3.length ≤ 400) (hr : rightV s = 0) (k : Nat) (hk : 100000 ≤ k) :
    l34_PremiseAfter.j3 k x false s.f0.f0 s.f0.f1 s.f0.f2 s.f0.f3 s.f0.f4 s.f0.f5 s.f0.f6 s.f0.f7 s.f0.f8 s.f0.f9 s.f0.f10 s.f1 s.f2 s.f3 s.f0.f0 s.f0.f1 s.f0.f2 s.f0.f3 s.f0.f4 s.f0.f5 s.f0.f6 s.f0.f7 s.f0.f8 s.f0.f9 s.f0.f10 s.f1 s.f2 (s.f3 ++ [noT]) = some true := by
  obtain ⟨k, rfl, hk'⟩ := peel (show 99999 + 1 ≤ k by omega)
  have hN := right_nodes (right_zero hr).1
  have hz := ticks_all.1 (right_zero hr).2.2.2
  have hm : ∀ t ∈ s.f3 ++ [burT x], t ∈ s.f3 ∨ t = burT x := fun t h => by simpa using h
  have hr2 := with_right (l := s.f3 ++ [burT x]) hr (by simp; omega) (fun t h => by rcases hm t h with e | e; exact hz t e; rw [e]; exact burT_zero hN x hx)
  have a2 := plast_eq _ (with_few (l := s.f3 ++ [burT x]) (m := 2900) hs (by simp; omega) (fun t h => by rcases hm t h with e | e; exact hs.each t e; rw [e]; exact burT_tiny x)) k (by omega)
  have hE : lastE (withT s (s.f3 ++ [burT x])) = (s.f3.length : Int) := by
    unfold lastE
    rw [if_pos hr2]
    show lastV (withT s (s.f3 ++ [burT x])) (s.f3 ++ [burT x]).length = _
    rw [List.length_append, List.length_singleton, lastV, bur_loud s x, if_neg (by decide)]
  rw [hE] at a2
  dsimp only [withT] at a2
  have hset : (s.f3 ++ [noT]).set s.f3.length (burT x) = s.f3 ++ [burT x] := by
    rw [List.set_append_right _ _ (Nat.le_refl _), Nat.sub_self]
    rfl
  have hb0 : (⟨[], [], [], [⟨0, x⟩], [], []⟩ : TK) = burT x := rfl
  rw [l34_PremiseAfter.j3, if_neg (by decide), if_pos (by omega), if_pos (by rw [List.length_append, List.length_singleton]; omega), hb0, Int.toNat_natCast, hset, a2, Option.bind_some, if_pos rfl, known34 k (by omega)]
  rfl
theorem after_l0 (B : Nat) (hB : 100000 ≤ B) (s : SC) (x : ByteArray) (hx : (x.size : Int) ≤ 8000) (hs : Few 2900 s) (hT : s.f3.length ≤ 400) (hr : rightV s = 0) : ∀ (d k j : Nat), j + d = s.f3.length → lastV s s.f3.length < (j : Int) → d + (B + 1) ≤ k → l34_PremiseAfter.l0 k x (lastV s s.f3.length) (j : Int) s.f0.f0 s.f0.f1 s.f0.f2 s.f0.f3 s.f0.f4 s.f0.f5 s.f0.f6 s.f0.f7 s.f0.f8 s.f0.f9 s.f0.f10 s.f1 s.f2 s.f3 = some true
  | 0, k, j, h, hj, hk => by
    obtain ⟨k, rfl, hk'⟩ := peel (show B + 1 ≤ k by omega)
    have hN := right_nodes (right_zero hr).1
    have hz := ticks_all.1 (right_zero hr).2.2.2
    have hm : ∀ t ∈ s.f3 ++ [noT], t ∈ s.f3 ∨ t = noT := fun t h => by simpa using h
    have hr2 := with_right (l := s.f3 ++ [noT]) hr (by simp; omega) (fun t h => by rcases hm t h with e | e; exact hz t e; rw [e]; exact noT_zero hN)
    have hw := with_few (l := s.f3 ++ [noT]) (m := 2900) hs (by simp; omega) (fun t h => by rcases hm t h with e | e; exact hs.each t e; rw [e]; exact noT_tiny)
    have hL : lastV (withT s (s.f3 ++ [noT])) (withT s (s.f3 ++ [noT])).f3.length = lastV s s.f3.length := by
      show lastV (withT s (s.f3 ++ [noT])) (s.f3 ++ [noT]).length = _
      rw [List.length_append, List.length_singleton, lastV, none_calm s hr, if_pos rfl, last_with s noT _ (Nat.le_refl _)]
    have e1 : lastE (withT s (s.f3 ++ [noT])) = lastV s s.f3.length := by unfold lastE; rw [if_pos hr2, hL]
    have e2 : settledV (withT s (s.f3 ++ [noT])) = settledV s := by unfold settledV; rw [if_pos hr2, if_pos hr, hL]; rfl
    have e3 : allV (withT s (s.f3 ++ [noT])) = allV s := by unfold allV; rw [if_pos hr2, if_pos hr, hL]; rfl
    have e4 : holdsV (withT s (s.f3 ++ [noT])) = holdsV s := by unfold holdsV; rw [if_pos hr2, if_pos hr]; rfl
    have a1 := plast_eq _ hw k (by omega)
    have a2 := psettled_eq _ hw k (by omega)
    have a3 := pall_eq _ hw k (by omega)
    have a4 := pholds_eq k (by omega) _ hw
    rw [e1] at a1
    rw [e2] at a2
    rw [e3] at a3
    rw [e4] at a4
    dsimp only [withT] at a1 a2 a3 a4
    have hn0 : (⟨[], [], [], [], [], []⟩ : TK) = noT := rfl
    rw [l34_PremiseAfter.l0, if_neg (by omega), if_pos (by simp; omega), Option.bind_some, List.nil_append, if_pos (by omega), Option.bind_some, hn0, a1, Option.bind_some, if_pos rfl, a3, Option.bind_some, pall_eq s hs k (by omega), Option.bind_some, if_pos rfl, a2, Option.bind_some, psettled_eq s hs k (by omega), Option.bind_some, if_pos rfl, a4, Option.bind_some, pholds_eq k (by omega) s hs, Option.bind_some, show (holdsV s != holdsV s) = false by simp]
    exact after_tail s x hx hs hT hr k (by omega)
  | d + 1, k, j, h, hj, hk => by
    obtain ⟨k, rfl, hk'⟩ := peel (show d + (B + 1) + 1 ≤ k by omega)
    rw [l34_PremiseAfter.l0, if_pos (by omega), pcalm_eq s _ hs.fa k (by omega), Option.bind_some, calmV_in hr (by omega) (by omega), calmB_after s s.f3.length j hj (by omega), if_pos rfl, w64_step (by omega)]
    exact after_l0 B hB s x hx hs hT hr d k (j + 1) (by omega) (by omega) hk'
theorem after_j1 (s : SC) (x : ByteArray) (hx : (x.size : Int) ≤ 8000) (hs : Few 2900 s) (hT : s.f3.length ≤ 400) (hr : rightV s = 0) (k : Nat) (hk : 100500 ≤ k) : l34_PremiseAfter.j1 k x (lastV s s.f3.length) false s.f0.f0 s.f0.f1 s.f0.f2 s.f0.f3 s.f0.f4 s.f0.f5 s.f0.f6 s.f0.f7 s.f0.f8 s.f0.f9 s.f0.f10 s.f1 s.f2 s.f3 = some true := by
  obtain ⟨k, rfl, hk'⟩ := peel (show 100499 + 1 ≤ k by omega)
  have hb := lastV_bd s s.f3.length
  have hw : wrap64 (lastV s s.f3.length + 1) = (((lastV s s.f3.length + 1).toNat : Nat) : Int) := by unfold wrap64; omega
  rw [l34_PremiseAfter.j1, if_neg (by decide), hw]
  exact after_l0 100000 (by omega) s x hx hs hT hr (s.f3.length - (lastV s s.f3.length + 1).toNat) k _ (by omega) (by omega) (by omega)
theorem PremiseAfter : Gn.PremiseAfter.Pure := by
  intro s x _ _
  obtain ⟨b, h1, h2⟩ := few_eq s 400 (by omega) (400000 + 1) (by omega)
  have hj0 : l34_PremiseAfter.j0 (400000 + 1) x true s.f0.f0 s.f0.f1 s.f0.f2 s.f0.f3 s.f0.f4 s.f0.f5 s.f0.f6 s.f0.f7 s.f0.f8 s.f0.f9 s.f0.f10 s.f1 s.f2 s.f3 = some true := by
    rw [l34_PremiseAfter.j0, if_pos rfl, known34 _ (by omega)]
    rfl
  refine ⟨400000 + 1, ?_⟩
  unfold l34_PremiseAfter.f
  rw [show (400 : Int) = ((400 : Nat) : Int) from rfl, h1, Option.bind_some]
  cases b with
  | false => rw [if_neg (by decide), hj0]
  | true =>
    have hs := (h2 rfl).to (m := 2900) (by omega)
    have hT := (h2 rfl).tk
    rw [if_pos rfl, rright_eq _ (by omega) s hs, Option.bind_some]
    by_cases hr : rightV s = 0
    · rw [if_pos hr]
      by_cases hx : (x.size : Int) > 8000
      · rw [decide_eq_true hx, hj0]
      · have hb := lastV_bd s s.f3.length
        have hE : lastE s = lastV s s.f3.length := by unfold lastE; rw [if_pos hr]
        have hj1 := after_j1 s x (by omega) hs hT hr 400000 (by omega)
        rw [decide_eq_false hx, l34_PremiseAfter.j0, if_neg (by decide), plast_eq s hs _ (by omega), Option.bind_some, hE, if_neg (by omega), if_neg (by omega)]
        by_cases h0 : lastV s s.f3.length ≥ 0
        · rw [if_pos h0, pcalm_eq s _ hs.fa _ (by omega), Option.bind_some, calmV_in hr h0 (by omega), calmB_last s _ h0]
          exact hj1
        · rw [if_neg h0]
          exact hj1
    · rw [if_neg hr, hj0]
end Go.Proofs.Ythdoghhmooodjaa.Pure
