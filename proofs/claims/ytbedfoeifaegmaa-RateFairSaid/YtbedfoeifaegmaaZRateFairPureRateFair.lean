import Derived.Test.YtbedfoeifaegmaaZRateFairStmtRateFair
import Derived.Test.YtbedfoeifaegmaaZRateFairRateFacts
namespace Go.Proofs.Ytbedfoeifaegmaa.Pure
open Go.RowKit Go.Proofs.Ytbedfoeifaegmaa.Gn Go.Proofs.YtbedfoeifaegmaaW.PrintWords Go.Proofs.YtbedfoeifaegmaaW.PrintLast Go.Proofs.Ytbedfoeifaegmaa.Facts Go.Proofs.Ytbedfoeifaegmaa.Opens
/-- Who was taken, of those that ask one after another. -/
def flags (now width limit : Int) : List EN → List Int → List Bool
  | _, [] => []
  | l, n :: ns => ((takeV now width limit l n).2 != 17) :: flags now width limit (takeV now width limit l n).1 ns
theorem many_flags (now width limit : Int) : ∀ (ns : List Int) (l : List EN) (acc : List Bool), (manyV now width limit l ns acc).2 = acc ++ flags now width limit l ns
  | [], l, acc => by simp [manyV, flags]
  | n :: ns, l, acc => by
    rw [manyV, many_flags now width limit ns, flags, List.append_assoc]
    rfl
/-- A note of now is alive, if the width is above 0. -/
theorem now_alive (now width a : Int) (h : 1 ≤ width) : aliveB now width ⟨a, now % 65536⟩ = true := by
  have : sgn now (now % 65536) = 0 := by
    unfold sgn
    rw [if_neg (by omega)]
    omega
  unfold aliveB
  rw [show (⟨a, now % 65536⟩ : EN).f1 = now % 65536 from rfl, this, decide_eq_true (by omega), decide_eq_true (by omega)]
  rfl
theorem take_of (now width limit : Int) (hw : 1 ≤ width) (l : List EN) (n m : Int) (hl : l.length ≤ 62) :
    ((takeV now width limit l n).2 ≠ 17 ↔ ¬ limit ≤ ((ofN now width l n : Nat) : Int)) ∧ ofN now width (takeV now width limit l n).1 m = ofN now width l m + (if n = m ∧ ¬ limit ≤ ((ofN now width l n : Nat) : Int) then 1 else 0) := by
  have hp := prg_len now width l
  unfold takeV
  by_cases h : limit ≤ ((ofN now width l n : Nat) : Int)
  · rw [if_pos h, if_neg (fun x => x.2 h), ofN_prg]
    exact ⟨⟨fun x => absurd rfl x, fun x => absurd h x⟩, rfl⟩
  · rw [if_neg h]
    have ha : addV (prg now width l) ⟨n, now % 65536⟩ = (prg now width l ++ [⟨n, now % 65536⟩], false) := by
      unfold addV
      rw [if_neg (by omega)]
    rw [ha]
    refine ⟨⟨fun _ => h, fun _ => by show (0 : Int) ≠ 17; decide⟩, ?_⟩
    have hpp := prg_prg now width l
    show ofN now width (prg now width l ++ [⟨n, now % 65536⟩]) m = _
    unfold ofN
    unfold prg at hpp ⊢
    rw [List.filter_append, hpp, List.filter_cons, if_pos (now_alive now width n hw), List.map_append, List.count_append]
    congr 1
    by_cases e : n = m
    · rw [if_pos ⟨e, h⟩]
      simp [e]
    · rw [if_neg (fun x => e x.1)]
      simp [e]
theorem take_small (now width limit : Int) (l : List EN) (n : Int) : (takeV now width limit l n).1.length ≤ l.length + 1 := takeV_len now width limit l n
/-- How many ask for a node, and how many of them are taken. -/
def asks (node : Int) : List Int → Nat
  | [] => 0
  | n :: ns => (if n = node then 1 else 0) + asks node ns
def took (node : Int) : List Int → List Bool → Nat
  | n :: ns, b :: bs => (if n = node ∧ b = true then 1 else 0) + took node ns bs
  | _, _ => 0
theorem fair (now width limit : Int) (hw : 1 ≤ width) (node : Int) : ∀ (ns : List Int) (l : List EN), l.length + ns.length ≤ 62 → ((took node ns (flags now width limit l ns) : Nat) : Int) = mn ((asks node ns : Nat) : Int) (roomV now width limit l node)
  | [], l, h => by
    unfold took asks mn roomV
    split <;> (try split at *) <;> omega
  | n :: ns, l, h => by
    rw [List.length_cons] at h
    have hl := take_small now width limit l n
    have ih := fair now width limit hw node ns (takeV now width limit l n).1 (by omega)
    obtain ⟨t1, t2⟩ := take_of now width limit hw l n node (by omega)
    rw [flags, took, asks]
    have hr : roomV now width limit (takeV now width limit l n).1 node = roomV now width limit l node - (if n = node ∧ ¬ limit ≤ ((ofN now width l n : Nat) : Int) then 1 else 0) := by
      by_cases e : n = node ∧ ¬ limit ≤ ((ofN now width l n : Nat) : Int)
      · have t3 : ofN now width (takeV now width limit l n).1 node = ofN now width l node + 1 := by rw [t2, if_pos e]
        rw [if_pos e]
        obtain ⟨e, c⟩ := e
        subst e
        unfold roomV
        rw [t3, if_neg c]
        split <;> omega
      · have t3 : ofN now width (takeV now width limit l n).1 node = ofN now width l node := by rw [t2, if_neg e]; rfl
        rw [if_neg e, Int.sub_zero]
        unfold roomV
        rw [t3]
    rw [hr] at ih
    have hr0 : 0 ≤ roomV now width limit l node := by
      unfold roomV
      split <;> omega
    by_cases e : n = node
    · subst e
      by_cases c : limit ≤ ((ofN now width l n : Nat) : Int)
      · have hb : ((takeV now width limit l n).2 != 17) = false := by
          cases hx : ((takeV now width limit l n).2 != 17)
          · rfl
          · exact absurd c (t1.1 (bne_iff_ne.1 hx))
        have h0 : roomV now width limit l n = 0 := by unfold roomV; rw [if_pos c]
        rw [hb, if_neg (by simp), if_pos rfl]
        rw [if_neg (fun x => x.2 c), h0] at ih
        rw [h0]
        unfold mn at ih ⊢
        split <;> split at ih <;> omega
      · have hb : ((takeV now width limit l n).2 != 17) = true := bne_iff_ne.2 (t1.2 c)
        have h1 : 1 ≤ roomV now width limit l n := by unfold roomV; rw [if_neg c]; omega
        rw [hb, if_pos ⟨rfl, rfl⟩, if_pos rfl]
        rw [if_pos ⟨rfl, c⟩] at ih
        unfold mn at ih ⊢
        split <;> split at ih <;> omega
    · rw [if_neg (fun x => e x.1), if_neg e]
      rw [if_neg (fun x => e x.1), Int.sub_zero] at ih
      rw [Nat.zero_add, Nat.zero_add]
      exact ih
theorem flags_len (now width limit : Int) : ∀ (ns : List Int) (l : List EN), (flags now width limit l ns).length = ns.length
  | [], _ => rfl
  | n :: ns, l => by rw [flags, List.length_cons, List.length_cons, flags_len now width limit ns]
theorem rdOf_at (l : List Bool) (i : Nat) (h : i < l.length) : rdOf false l (i : Int) = l[i] := by
  unfold rdOf
  simp [List.getD_eq_getElem?_getD, h]
theorem fair_l0 (ns : List Int) (node room : Int) (bs : List Bool) (hb : bs.length = ns.length) (hn : ns.length ≤ 100) (A T : Nat) (hA : asks node ns = A) (hT : took node ns bs = T) (hfin : ((T : Nat) : Int) = mn ((A : Nat) : Int) room) : ∀ (d k j a t : Nat), j + d = ns.length → d + 200 ≤ k → a + asks node (ns.drop j) = A → t + took node (ns.drop j) (bs.drop j) = T → a ≤ j → t ≤ j → l07_RateFair.l0 k ns node room bs (a : Int) (t : Int) (j : Int) = some true
  | 0, k, j, a, t, h, hk, ha, ht, ha1, ht1 => by
    obtain ⟨k, rfl, _⟩ := lpeel (m := 199) (by omega)
    rw [List.drop_of_length_le (by omega)] at ha
    rw [List.drop_of_length_le (l := ns) (by omega)] at ht
    have e1 : a = A := by simpa [asks] using ha
    have e2 : t = T := by simpa [took] using ht
    subst e1; subst e2
    rw [l07_RateFair.l0, if_neg (by omega), if_pos hfin, known07 k (by omega)]
    rfl
  | d + 1, k, j, a, t, h, hk, ha, ht, ha1, ht1 => by
    obtain ⟨k, rfl, hk'⟩ := lpeel (m := d + 200) (by omega)
    have hj : j < ns.length := by omega
    have hjb : j < bs.length := by omega
    rw [List.drop_eq_getElem_cons hj, asks] at ha
    rw [List.drop_eq_getElem_cons hj, List.drop_eq_getElem_cons hjb, took] at ht
    rw [l07_RateFair.l0, if_pos (by omega), if_pos (by omega), lrd_at ns j hj]
    by_cases e : ns[j] = node
    · rw [if_pos e] at ha
      rw [if_pos e, if_pos (by omega), rdOf_at bs j hjb]
      cases hx : bs[j] with
      | true =>
        rw [hx, if_pos ⟨e, rfl⟩] at ht
        rw [if_pos rfl, lstep (by omega), lstep (by omega), lstep (by omega)]
        exact fair_l0 ns node room bs hb hn A T hA hT hfin d k (j + 1) (a + 1) (t + 1) (by omega) hk' (by omega) (by omega) (by omega) (by omega)
      | false =>
        rw [hx, if_neg (fun x => by cases x.2)] at ht
        rw [if_neg (by decide), lstep (by omega), lstep (by omega)]
        exact fair_l0 ns node room bs hb hn A T hA hT hfin d k (j + 1) (a + 1) t (by omega) hk' (by omega) (by omega) (by omega) (by omega)
    · rw [if_neg e] at ha
      rw [if_neg (fun x => e x.1)] at ht
      rw [if_neg e, lstep (by omega)]
      exact fair_l0 ns node room bs hb hn A T hA hT hfin d k (j + 1) a t (by omega) hk' (by omega) (by omega) (by omega) (by omega)
theorem RateFair : Gn.RateFair.Pure := by
  intro c ns node hc hn hnode
  obtain ⟨hl, h1, h2, hL⟩ := hc
  have hw : WfE c.f0 := fun e he => (hl.2 e he).1
  refine ⟨2001, ?_⟩
  have hj : l07_RateFair.j0 2001 ns node c.f0 c.f1 c.f2 c.f3 true = some true := by
    rw [l07_RateFair.j0, if_pos rfl, known07 2000 (by omega)]
    rfl
  unfold l07_RateFair.f
  by_cases g : (c.f0.length : Int) > 40
  · rw [if_pos g]; exact hj
  rw [if_neg g]
  by_cases g2 : (ns.length : Int) > 20
  · rw [if_pos g2]; exact hj
  rw [if_neg g2]
  by_cases g3 : c.f2 < 1
  · rw [decide_eq_true g3]; exact hj
  have hf := many_flags c.f1 c.f2 c.f3 ns c.f0 []
  rw [List.nil_append] at hf
  have hfl := flags_len c.f1 c.f2 c.f3 ns c.f0
  rw [decide_eq_false g3, l07_RateFair.j0, if_neg (by decide), room_eq c.f0 (by omega) hw c.f1 c.f2 c.f3 node hL hnode, Option.bind_some, many_eq c.f1 c.f2 c.f3 hL ns (by omega) hn.2 c.f0 (by omega) hw 2000 (by omega), Option.bind_some, hf, if_pos (by rw [hfl])]
  exact fair_l0 ns node _ _ hfl (by omega) _ _ rfl rfl (fair c.f1 c.f2 c.f3 (by omega) node ns c.f0 (by omega)) ns.length 2000 0 0 0 (by omega) (by omega) (by simp) (by simp) (Nat.le_refl _) (Nat.le_refl _)
end Go.Proofs.Ytbedfoeifaegmaa.Pure
