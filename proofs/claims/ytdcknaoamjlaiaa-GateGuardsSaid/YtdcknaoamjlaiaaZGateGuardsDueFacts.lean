import Derived.Test.YtdcknaoamjlaiaaZGateGuardsSchedFacts
import Derived.Test.YtdcknaoamjlaiaaZGateGuardsGn51
import Derived.Test.YtdcknaoamjlaiaaZGateGuardsGn0
import Derived.Test.YtdcknaoamjlaiaaZGateGuardsGn3
import Derived.Test.YtdcknaoamjlaiaaZGateGuardsGn39
namespace Go.Proofs.Ytdcknaoamjlaiaa.Facts
open Go.RowKit Go.Proofs.Ytdcknaoamjlaiaa.Gn Go.Proofs.YtdcknaoamjlaiaaW.PrintWords Go.Proofs.YtdcknaoamjlaiaaW.PrintLast
set_option linter.unusedVariables false
theorem ownedL_is {l : List Int} {node : Int} : ∀ {m : Nat} {y : Int}, y ∈ ownedL l node m → 0 ≤ y ∧ y < m ∧ rd l y = node
  | m + 1, y, h => by
    rw [ownedL] at h
    split at h
    · rename_i c
      rcases List.mem_append.1 h with h | h
      · obtain ⟨a, b, e⟩ := ownedL_is h
        exact ⟨a, by omega, e⟩
      · obtain rfl := List.mem_singleton.1 h
        exact ⟨by omega, by omega, c⟩
    · obtain ⟨a, b, e⟩ := ownedL_is h
      exact ⟨a, by omega, e⟩
def firstB (p : Int → Bool) : List Int → Int
  | [] => -1
  | y :: ys => if p y = true then y else firstB p ys
theorem allD_of {f : Int → Option Bool} {p : Int → Bool} : ∀ {ys : List Int}, (∀ y ∈ ys, f y = some (p y)) → allD f ys = some ()
  | [], _ => rfl
  | y :: ys, h => by
    rw [allD, h y (List.mem_cons_self ..), Option.bind_some]
    exact allD_of fun z hz => h z (List.mem_cons_of_mem _ hz)
theorem firstD_of {f : Int → Option Bool} {p : Int → Bool} : ∀ {ys : List Int}, (∀ y ∈ ys, f y = some (p y)) → firstD f ys = firstB p ys
  | [], _ => rfl
  | y :: ys, h => by
    rw [firstD, firstB, h y (List.mem_cons_self ..), firstD_of fun z hz => h z (List.mem_cons_of_mem _ hz)]
    simp
/-- Was there sent in a slot? -/
def sentV (s : ByteArray) (y : Int) : Bool := decide (y < (s.size : Int)) && (bt s y == 49)
theorem sentIn_eq (s : ByteArray) (y : Int) (hy : 0 ≤ y) : sched_sentIn.f s y = some (sentV s y) := by
  unfold sched_sentIn.f sentV
  by_cases c : y < (s.size : Int)
  · rw [if_pos c, if_pos hy, decide_eq_true c]; rfl
  · rw [if_neg c, decide_eq_false c]; rfl
section
variable (c0 c1 c2 c3 c4 c5 c6 c7 c8 c9 : Int) (l : List Int)
def dueV (c4 c5 c6 c7 e : Int) (s : ByteArray) (y : Int) : Bool := decide (middleV c6 c7 y ≤ e ∧ e < middleV c6 c7 y + c4 + c5) && !sentV s y
theorem dueOne_eq (h : Plain c0 c1 c2 c3 c4 c5 c6 c7 c8 c9 l) (e : Int) (s : ByteArray) {y : Int} (hy : 0 ≤ y ∧ y < l.length) (k : Nat) (hk : 8 ≤ k) : dueOne k c0 c1 c2 c3 c4 c5 c6 c7 c8 c9 l e s y = some (dueV c4 c5 c6 c7 e s y) := by
  have hm := middle_bd h hy
  have hr := h.r
  have hd := h.dr
  have hc : plainE c0 c1 c2 c3 c4 c5 c6 c7 c8 c9 l = 0 ∧ 0 ≤ y ∧ y < l.length := ⟨plain_iff.2 h, hy⟩
  unfold dueOne dueV
  rw [middle_eq _ _ _ _ _ _ _ _ _ _ _ k hk, Option.bind_some, if_pos hc, w64 (a := middleV c6 c7 y + c4) (by omega), w64 (by omega)]
  by_cases a : e < middleV c6 c7 y
  · rw [if_pos a, decide_eq_false (by omega)]; rfl
  · rw [if_neg a]
    by_cases b : e ≥ middleV c6 c7 y + c4 + c5
    · rw [if_pos b, decide_eq_false (by omega)]; rfl
    · rw [if_neg b, decide_eq_true (by omega), sentIn_eq s y hy.1]; rfl
def dueR (node e : Int) (s : ByteArray) : Int := if plainE c0 c1 c2 c3 c4 c5 c6 c7 c8 c9 l = 0 then firstB (dueV c4 c5 c6 c7 e s) (ownedL l node l.length) else -1
theorem due_eq (node e : Int) (s : ByteArray) (k : Nat) (hk : 8 ≤ k) : sched_Due.f k c0 c1 c2 c3 c4 c5 c6 c7 c8 c9 l node e s = some (dueR c0 c1 c2 c3 c4 c5 c6 c7 c8 c9 l node e s) := by
  unfold sched_Due.f dueR
  rw [plain_eq k hk, Option.bind_some]
  by_cases hp : plainE c0 c1 c2 c3 c4 c5 c6 c7 c8 c9 l = 0
  · have h := plain_iff.1 hp
    rw [beq_iff_eq.2 hp, if_pos hp, if_pos rfl]
    have hf : ∀ y ∈ ownedL l node l.length, dueOne k c0 c1 c2 c3 c4 c5 c6 c7 c8 c9 l e s y = some (dueV c4 c5 c6 c7 e s y) := fun y hy => by
      have := ownedL_is hy
      exact dueOne_eq _ _ _ _ _ _ _ _ _ _ _ h e s ⟨this.1, this.2.1⟩ k hk
    rw [allD_of hf, Option.bind_some, firstD_of hf]
  · rw [beq_eq_false_iff_ne.2 hp, if_neg hp, if_neg (by decide)]
    rfl
end
end Go.Proofs.Ytdcknaoamjlaiaa.Facts
