import Derived.Test.YtdcknaoamjlaiaaZGateSendsGn0
import Derived.Test.YtdcknaoamjlaiaaZGateSendsGn3
import Derived.Test.YtdcknaoamjlaiaaZGateSendsGn25
import Derived.Test.YtdcknaoamjlaiaaZGateSendsGn39
import Derived.Test.YtdcknaoamjlaiaaZGateSendsGn40
import Derived.Test.YtdcknaoamjlaiaaZGateSendsRingFacts0
import Derived.Test.YtdcknaoamjlaiaaZGateSendsConfFacts
import Derived.Test.YtdcknaoamjlaiaaZGateSendsBoundFacts
import Derived.Test.YtdcknaoamjlaiaaZGateSendsGn51
import Derived.Test.YtdcknaoamjlaiaaZGateSendsGn56
namespace Go.Proofs.Ytdcknaoamjlaiaa.Facts
open Go.RowKit Go.Proofs.Ytdcknaoamjlaiaa.Gn Go.Proofs.YtdcknaoamjlaiaaW.PrintWords Go.Proofs.YtdcknaoamjlaiaaW.PrintLast
set_option linter.unusedVariables false
theorem ownedL_len (l : List Int) (node : Int) : ∀ k, (ownedL l node k).length ≤ k
  | 0 => Nat.le_refl _
  | k + 1 => by
    have := ownedL_len l node k
    rw [ownedL]
    split
    · rw [List.length_append]; exact Nat.succ_le_succ this
    · omega
theorem ownedL_is {l : List Int} {node : Int} : ∀ {m : Nat} {y : Int}, y ∈ ownedL l node m → 0 ≤ y ∧ y < m ∧ rd l y = node
  | m + 1, y, h => by
    rw [ownedL] at h
    split at h
    · rename_i c
      rcases List.mem_append.1 h with h | h
      · obtain ⟨a, b, e⟩ := ownedL_is h
        exact ⟨a, by omega, e⟩
      · obtain rfl := List.mem_singleton.1 h
        exact ⟨by omega, by omega, c⟩
    · obtain ⟨a, b, e⟩ := ownedL_is h
      exact ⟨a, by omega, e⟩
def firstB (p : Int → Bool) : List Int → Int
  | [] => -1
  | y :: ys => if p y = true then y else firstB p ys
theorem allD_of {f : Int → Option Bool} {p : Int → Bool} : ∀ {ys : List Int}, (∀ y ∈ ys, f y = some (p y)) → allD f ys = some ()
  | [], _ => rfl
  | y :: ys, h => by
    rw [allD, h y (List.mem_cons_self ..), Option.bind_some]
    exact allD_of fun z hz => h z (List.mem_cons_of_mem _ hz)
theorem firstD_of {f : Int → Option Bool} {p : Int → Bool} : ∀ {ys : List Int}, (∀ y ∈ ys, f y = some (p y)) → firstD f ys = firstB p ys
  | [], _ => rfl
  | y :: ys, h => by
    rw [firstD, firstB, h y (List.mem_cons_self ..), firstD_of fun z hz => h z (List.mem_cons_of_mem _ hz)]
    simp
/-- Was there sent in a slot? -/
def sentV (s : ByteArray) (y : Int) : Bool := decide (y < (s.size : Int)) && (bt s y == 49)
theorem sentIn_eq (s : ByteArray) (y : Int) (hy : 0 ≤ y) : sched_sentIn.f s y = some (sentV s y) := by
  unfold sched_sentIn.f sentV
  by_cases c : y < (s.size : Int)
  · rw [if_pos c, if_pos hy, decide_eq_true c]; rfl
  · rw [if_neg c, decide_eq_false c]; rfl
section
variable (c0 c1 c2 c3 c4 c5 c6 c7 c8 c9 : Int) (l : List Int)
def dueV (c4 c5 c6 c7 e : Int) (s : ByteArray) (y : Int) : Bool := decide (middleV c6 c7 y ≤ e ∧ e < middleV c6 c7 y + c4 + c5) && !sentV s y
theorem dueOne_eq (h : Plain c0 c1 c2 c3 c4 c5 c6 c7 c8 c9 l) (e : Int) (s : ByteArray) {y : Int} (hy : 0 ≤ y ∧ y < l.length) (k : Nat) (hk : 8 ≤ k) : dueOne k c0 c1 c2 c3 c4 c5 c6 c7 c8 c9 l e s y = some (dueV c4 c5 c6 c7 e s y) := by
  have hm := middle_bd h hy
  have hr := h.r
  have hd := h.dr
  have hc : plainE c0 c1 c2 c3 c4 c5 c6 c7 c8 c9 l = 0 ∧ 0 ≤ y ∧ y < l.length := ⟨plain_iff.2 h, hy⟩
  unfold dueOne dueV
  rw [middle_eq _ _ _ _ _ _ _ _ _ _ _ k hk, Option.bind_some, if_pos hc, w64 (a := middleV c6 c7 y + c4) (by omega), w64 (by omega)]
  by_cases a : e < middleV c6 c7 y
  · rw [if_pos a, decide_eq_false (by omega)]; rfl
  · rw [if_neg a]
    by_cases b : e ≥ middleV c6 c7 y + c4 + c5
    · rw [if_pos b, decide_eq_false (by omega)]; rfl
    · rw [if_neg b, decide_eq_true (by omega), sentIn_eq s y hy.1]; rfl
def dueR (node e : Int) (s : ByteArray) : Int := if plainE c0 c1 c2 c3 c4 c5 c6 c7 c8 c9 l = 0 then firstB (dueV c4 c5 c6 c7 e s) (ownedL l node l.length) else -1
theorem due_eq (node e : Int) (s : ByteArray) (k : Nat) (hk : 8 ≤ k) : sched_Due.f k c0 c1 c2 c3 c4 c5 c6 c7 c8 c9 l node e s = some (dueR c0 c1 c2 c3 c4 c5 c6 c7 c8 c9 l node e s) := by
  unfold sched_Due.f dueR
  rw [plain_eq k hk, Option.bind_some]
  by_cases hp : plainE c0 c1 c2 c3 c4 c5 c6 c7 c8 c9 l = 0
  · have h := plain_iff.1 hp
    rw [beq_iff_eq.2 hp, if_pos hp, if_pos rfl]
    have hf : ∀ y ∈ ownedL l node l.length, dueOne k c0 c1 c2 c3 c4 c5 c6 c7 c8 c9 l e s y = some (dueV c4 c5 c6 c7 e s y) := fun y hy => by
      have := ownedL_is hy
      exact dueOne_eq _ _ _ _ _ _ _ _ _ _ _ h e s ⟨this.1, this.2.1⟩ k hk
    rw [allD_of hf, Option.bind_some, firstD_of hf]
  · rw [beq_eq_false_iff_ne.2 hp, if_neg hp, if_neg (by decide)]
    rfl
theorem rowned_l0 (node : Int) (hl : l.length ≤ 1000) : ∀ (d k j : Nat), j + d = l.length → d + 1 ≤ k → bellwetherref21_Owned.l0 k node (ownedL l node j) (j : Int) c0 c1 c2 c3 c4 c5 c6 c7 c8 c9 l = some (ownedL l node l.length)
  | 0, k, j, hj, hk => by
    obtain ⟨k, rfl, _⟩ := peel hk
    rw [bellwetherref21_Owned.l0, if_neg (by omega), show j = l.length from by omega]
  | d + 1, k, j, hj, hk => by
    obtain ⟨k, rfl, hk'⟩ := peel hk
    have ih := rowned_l0 node hl d k (j + 1) (by omega) hk'
    have hlen := ownedL_len l node j
    rw [ownedL] at ih
    rw [bellwetherref21_Owned.l0, if_pos (by omega), if_pos (by omega), w64_step (by omega), if_pos (show (ownedL l node j).length < 17592186044416 by omega)]
    by_cases c : rd l (j : Int) = node
    · rw [if_pos c] at ih ⊢
      exact ih
    · rw [if_neg c] at ih ⊢
      exact ih
theorem rowned_eq (node : Int) (k : Nat) (hk : 740 ≤ k) : bellwetherref21_Owned.f k c0 c1 c2 c3 c4 c5 c6 c7 c8 c9 l node = some (if plainE c0 c1 c2 c3 c4 c5 c6 c7 c8 c9 l = 0 then ownedL l node l.length else []) := by
  unfold bellwetherref21_Owned.f
  rw [ref_plain_eq _ _ _ _ _ _ _ _ _ _ _ k (by omega), Option.bind_some]
  by_cases hp : plainE c0 c1 c2 c3 c4 c5 c6 c7 c8 c9 l = 0
  · have h := plain_iff.1 hp
    have hl := h.len
    rw [if_pos hp, if_pos hp]
    exact rowned_l0 _ _ _ _ _ _ _ _ _ _ _ node (by omega) l.length k 0 (by omega) (by omega)
  · rw [if_neg hp, if_neg hp]
theorem rdue_l0 (h : Plain c0 c1 c2 c3 c4 c5 c6 c7 c8 c9 l) (e : Int) (s : ByteArray) (L : List Int) (hL : ∀ y ∈ L, 0 ≤ y ∧ y < l.length) (hLl : L.length ≤ 1000) : ∀ (d k j : Nat), j + d = L.length → d + 701 ≤ k → bellwetherref21_Due.l0 k e s L (j : Int) c0 c1 c2 c3 c4 c5 c6 c7 c8 c9 l = some (firstB (dueV c4 c5 c6 c7 e s) (L.drop j))
  | 0, k, j, hj, hk => by
    obtain ⟨k, rfl, _⟩ := peel (m := 700) (by omega)
    rw [bellwetherref21_Due.l0, if_neg (by omega), List.drop_of_length_le (by omega)]
    rfl
  | d + 1, k, j, hj, hk => by
    obtain ⟨k, rfl, hk'⟩ := peel (m := d + 701) (by omega)
    have hj' : j < L.length := by omega
    have hy := hL L[j] (List.getElem_mem hj')
    have hm := middle_bd h hy
    have hr := h.r
    have hd := h.dr
    have hc : plainE c0 c1 c2 c3 c4 c5 c6 c7 c8 c9 l = 0 ∧ 0 ≤ L[j] ∧ L[j] < l.length := ⟨plain_iff.2 h, hy⟩
    have ih := rdue_l0 h e s L hL hLl d k (j + 1) (by omega) hk'
    rw [bellwetherref21_Due.l0, if_pos (by omega), if_pos (by omega), rd_at L j hj', ref_middle_eq _ _ _ _ _ _ _ _ _ _ _ k (by omega), Option.bind_some, if_pos hc, w64 (a := middleV c6 c7 L[j] + c4) (by omega), w64 (a := middleV c6 c7 L[j] + c4 + c5) (by omega), w64_step (by omega), ih, List.drop_eq_getElem_cons hj', firstB]
    unfold dueV sentV
    by_cases g : L[j] ≥ (s.size : Int)
    · rw [if_pos g, decide_eq_false (show ¬ L[j] < (s.size : Int) by omega)]
      by_cases a : e ≥ middleV c6 c7 L[j]
      · rw [if_pos a]
        by_cases b : e < middleV c6 c7 L[j] + c4 + c5
        · rw [if_pos b, decide_eq_true ⟨a, b⟩]; rfl
        · rw [if_neg b, decide_eq_false (fun x => b x.2)]; rfl
      · rw [if_neg a, decide_eq_false (fun x => a x.1)]; rfl
    · rw [if_neg g, if_pos hy.1, if_pos (by omega), decide_eq_true (show L[j] < (s.size : Int) by omega)]
      by_cases z : bt s L[j] = 49
      · rw [if_pos z, beq_iff_eq.2 z]
        simp
      · rw [if_neg z, beq_eq_false_iff_ne.2 z]
        by_cases a : e ≥ middleV c6 c7 L[j]
        · rw [if_pos a]
          by_cases b : e < middleV c6 c7 L[j] + c4 + c5
          · rw [if_pos b, decide_eq_true ⟨a, b⟩]; rfl
          · rw [if_neg b, decide_eq_false (fun x => b x.2)]; rfl
        · rw [if_neg a, decide_eq_false (fun x => a x.1)]; rfl
theorem rdue_eq (node e : Int) (s : ByteArray) (k : Nat) (hk : 800 ≤ k) : bellwetherref21_Due.f k c0 c1 c2 c3 c4 c5 c6 c7 c8 c9 l node e s = some (dueR c0 c1 c2 c3 c4 c5 c6 c7 c8 c9 l node e s) := by
  unfold bellwetherref21_Due.f dueR
  rw [rowned_eq _ _ _ _ _ _ _ _ _ _ _ _ k (by omega), Option.bind_some]
  by_cases hp : plainE c0 c1 c2 c3 c4 c5 c6 c7 c8 c9 l = 0
  · have h := plain_iff.1 hp
    have hl := h.len
    have hlen := ownedL_len l node l.length
    rw [if_pos hp, if_pos hp]
    exact rdue_l0 _ _ _ _ _ _ _ _ _ _ _ h e s _ (fun y hy => ⟨(ownedL_is hy).1, (ownedL_is hy).2.1⟩) (by omega) _ k 0 (Nat.zero_add _) (by omega)
  · rw [if_neg hp, if_neg hp]
    obtain ⟨k, rfl, _⟩ := peel (m := 799) (by omega)
    rfl
end
end Go.Proofs.Ytdcknaoamjlaiaa.Facts
