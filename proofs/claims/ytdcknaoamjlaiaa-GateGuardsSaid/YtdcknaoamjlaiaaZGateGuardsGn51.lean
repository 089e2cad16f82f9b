import Derived.Test.YtdcknaoamjlaiaaZGateGuardsGn0
import Derived.Test.YtdcknaoamjlaiaaZGateGuardsGn3
import Derived.Test.YtdcknaoamjlaiaaZGateGuardsGn25
import Derived.Test.YtdcknaoamjlaiaaZGateGuardsGn50
import Derived.Shelf.Abstract
import Derived.RangeFuncNested
import Derived.RangeFuncBound
import Derived.RangeFuncCalls
import Derived.RangeFuncLeaves
import Derived.RangeFuncBox
import Derived.Shelf.RegionOpen
import Derived.WalkKit
import Derived.OwnWalkIn
import Derived.TacticsInMore
import Derived.LoopNIn
import Derived.LoopIn
namespace Go.Proofs.Ytdcknaoamjlaiaa.Gn
open Go.RowKit Go.Proofs.YtdcknaoamjlaiaaW.PrintWords Go.Proofs.YtdcknaoamjlaiaaW.PrintLast Go.Proofs.YtdcknaoamjlaiaaW.PrintMore
attribute [local go_sem] max2_int min2_int max_two min_two max_three min_three max_four min_four   -- for this text's walks alone
set_option linter.unusedVariables false
set_option linter.unusedSimpArgs false
/-- What an iterator over slots asks of a round: whatever lay below N, but for X, lies as it lay. -/
structure KeptBut (N : Nat) (X : Nat → Prop) (W W' : World) : Prop where
 size : W.heap.size ≤ W'.heap.size
 same : ∀ k, k < N → ¬ X k → W'.heap[k]? = W.heap[k]?
theorem KeptBut.refl (N : Nat) (X : Nat → Prop) (W : World) : KeptBut N X W W := ⟨Nat.le_refl _, fun _ _ _ => rfl⟩
theorem KeptBut.trans {N : Nat} {X : Nat → Prop} {A B C : World} (h : KeptBut N X A B) (k : KeptBut N X B C) : KeptBut N X A C := ⟨Nat.le_trans h.size k.size, fun i hi hx => (k.same i hi hx).trans (h.same i hi hx)⟩
theorem KeptBut.cell {N : Nat} {X : Nat → Prop} {A B : World} (h : KeptBut N X A B) {p : Addr} (hb : p.block < N) (hx : ¬ X p.block) : B.cell? p = A.cell? p := by
 unfold World.cell?
 rw [h.same _ hb hx]
theorem KeptBut.below {N : Nat} {X : Nat → Prop} {A B : World} (h : Below A.heap.size A B) (hN : N ≤ A.heap.size) : KeptBut N X A B := ⟨h.size, fun k hk _ => h.block k (by omega)⟩
theorem KeptBut.put {N : Nat} {X : Nat → Prop} (W : World) (l : Nat) (o' : Obj) (h : N ≤ l) : KeptBut N X W (W.putObj l o') := by
 have hb := belowK_b (w := W) (n₀ := N)
 refine ⟨?_, fun k hk _ => ?_⟩
 ·simp [World.putObj]
 ·simp only [World.putObj]
  rw [Array.getElem?_setIfInBounds_ne (by omega)]
theorem KeptBut.over {N b : Nat} {X : Nat → Prop} (W : World) (v : Value) (h : N ≤ b) : KeptBut N X W (W.setCell ⟨b, 0, none⟩ v) :=
 ⟨(grownBy_setCell' W b v).size, fun k hk _ => Below.heap_setCell _ _ _ k (fun e => by have e' : k = b := e; omega)⟩
/-- A node's slots among the first ones of a table. -/
def ownedL (l : List Int) (node : Int) : Nat → List Int
 | 0 => []
 | k + 1 => if rd l (k : Int) = node then ownedL l node k ++ [(k : Int)] else ownedL l node k
def ups {P : Int → Prop} (l : List Int) (node : Int) (hP : ∀ k : Nat, k < l.length → rd l (k : Int) = node → P k) : Nat → List { x : Int // P x }
 | 0 => []
 | k + 1 => if h : k < l.length ∧ rd l (k : Int) = node then ups l node hP k ++ [⟨k, hP k h.1 h.2⟩] else ups l node hP k
theorem ups_len {P : Int → Prop} (l : List Int) (node : Int) (hP : ∀ k : Nat, k < l.length → rd l (k : Int) = node → P k) : ∀ k, (ups l node hP k).length ≤ k
 | 0 => Nat.le_refl _
 | k + 1 => by
  have := ups_len l node hP k
  rw [ups]
  split
  ·rw [List.length_append]; exact Nat.succ_le_succ this
  ·omega
theorem ups_val {P : Int → Prop} (l : List Int) (node : Int) (hP : ∀ k : Nat, k < l.length → rd l (k : Int) = node → P k) : ∀ k, k ≤ l.length → (ups l node hP k).map (·.1) = ownedL l node k
 | 0, _ => rfl
 | k + 1, h => by
  have ih := ups_val l node hP k (by omega)
  rw [ups, ownedL]
  by_cases c : rd l (k : Int) = node
  ·rw [dif_pos ⟨by omega, c⟩, if_pos c, List.map_append, ih]; rfl
  ·rw [dif_neg (fun x => c x.2), if_neg c, ih]
set_option maxRecDepth 100000 in
set_option maxHeartbeats 8000000 in
theorem sched_Owned1.stops {P : Int → Prop} (n : Nat) (hn : 1 ≤ n) (l : List Int) (node : Int) (hP : ∀ k : Nat, k < l.length → rd l (k : Int) = node → P k) (plain : Bool) (A : Option Addr) (c N : Nat) (X : Nat → Prop) (w : World) (hl : l.length ≤ c) (hmax : (l.length : Int) ≤ 9223372036854775807) (B1 B2 B3 : Nat)
  (h1 : B1 < w.heap.size) (h2 : B2 < w.heap.size) (h3 : B3 < N) (hx3 : ¬ X B3) (hN : N ≤ w.heap.size)
  (g1 : w.cell? ⟨B1, 0, none⟩ = some (.bool plain)) (g2 : w.cell? ⟨B2, 10, none⟩ = some (.slice A l.length c)) (g3 : w.cell? ⟨B3, 0, none⟩ = some (.int .i64 node))
  (hT : ∀ j : Nat, j < l.length → ∃ ad : Addr, A = some ad ∧ (ad.add j).block < N ∧ ¬ X (ad.add j).block ∧ w.cell? (ad.add j) = some (.int .i64 (rd l (j : Int)))) :
  SeqStopsK Fence.wide n Try.prog 126 #[.pointer (some ⟨B1, 0, none⟩), .pointer (some ⟨B2, 0, none⟩), .pointer (some ⟨B3, 0, none⟩)] (fun x : { x : Int // P x } => #[Value.int .i64 x.1]) (KeptBut N X) (fun ys => ys = ups l node hP (if plain then l.length else 0)) (fun pre => ∃ k, k ≤ (if plain then l.length else 0) ∧ pre = ups l node hP k) (if plain then l.length else 0) w := fun lp J Jx W hW _ _ hY h0 => by
 have g1' := (hW.cell (p := ⟨B1, 0, none⟩) h1).trans g1
 have g2' := (hW.cell (p := ⟨B2, 10, none⟩) h2).trans g2
 have g3' := (hW.cell (p := ⟨B3, 0, none⟩) (by show B3 < w.heap.size; omega)).trans g3
 have hT' : ∀ j : Nat, j < l.length → ∃ ad : Addr, A = some ad ∧ (ad.add j).block < N ∧ ¬ X (ad.add j).block ∧ W.cell? (ad.add j) = some (.int .i64 (rd l (j : Int))) := fun j hj => by
  obtain ⟨ad, e, hb, hx, hc⟩ := hT j hj
  exact ⟨ad, e, hb, hx, (hW.cell (p := ad.add j) (by omega)).trans hc⟩
 refine callsIn_of_wp Try.func126 rfl trivial ?_ rfl
 simp only [Try.ntmps126, List.size_toArray, List.length_cons, List.length_nil, Nat.reduceAdd, Nat.reduceSub, Array.replicate_succ, Array.replicate_zero, List.push_toArray, List.append_toArray, List.nil_append, List.cons_append]
 cases plain with
 | false =>
  gi_wp2
  refine bodyPost_ret (results_none rfl _ _ _) rfl ?_
  exact ⟨⟨_, rfl⟩, .inl h0⟩
 | true =>
  gi_wp2
  gi_loopw [12] (fun i wr => ∃ k : Nat, k ≤ l.length ∧ i = .int .i64 k ∧ J (ups l node hP k) wr ∧ KeptBut N X W wr)
   (fun i _ => l.length - (intOf i).toNat)
  case atStart => exact ⟨0, Nat.zero_le _, rfl, h0, KeptBut.refl _ _ _⟩
  case round =>
   obtain ⟨k, hk, rfl, hJs, hnx⟩ := hrel
   by_cases hlt : k < l.length
   ·obtain ⟨ad, rfl, hb, hx, hc⟩ := hT' k hlt
    have hcx := (hnx.cell hb hx).trans hc
    have g3x := (hnx.cell (p := ⟨B3, 0, none⟩) h3 hx3).trans g3'
    clear hT hT' hc
    by_cases he : rd l (k : Int) = node
    ·obtain ⟨fn, tmps, assign, body, hy, hR⟩ := hY (ups l node hP k) ⟨k, hP k hlt he⟩ wr hJs (by have := ups_len l node hP k; show _ < l.length; omega)
     dsimp only at hy
     have eu : ups l node hP (k + 1) = ups l node hP k ++ [⟨k, hP k hlt he⟩] := by rw [ups, dif_pos ⟨hlt, he⟩]
     have he1 : (rd l (k : Int) == node) = true := beq_iff_eq.mpr he
     clear hY
     gi_wp2
     refine hR.mono ?_
     rintro e W3 (⟨rfl, hJ3, hk3⟩ | ⟨rfl, hJx3⟩)
     ·gi_wp2
      go_roundw
      case rel => exact ⟨k + 1, by omega, by simp, by rw [eu]; exact hJ3, hnx.trans hk3⟩
      case measure => simp [intOf]; omega
     ·gi_wp2
      refine bodyPost_ret (results_none rfl _ _ _) rfl ?_
      exact ⟨⟨_, rfl⟩, .inr ⟨_, ⟨k + 1, by show _ ≤ l.length; omega, eu.symm⟩, hJx3⟩⟩
    ·have eu : ups l node hP (k + 1) = ups l node hP k := by rw [ups, dif_neg (fun x => he x.2)]
     have he1 : (rd l (k : Int) == node) = false := beq_eq_false_iff_ne.mpr he
     clear hY
     gi_wp2
     refine ⟨fun _ h => (by cases h), ?_⟩
     gi_wp2
     go_roundw
     case rel => exact ⟨k + 1, by omega, by simp, by rw [eu]; exact hJs, hnx⟩
     case measure => simp [intOf]; omega
   ·obtain rfl : k = l.length := by omega
    clear hT hT'
    gi_wp2
    go_end0
    exact ⟨⟨_, rfl⟩, .inl hJs⟩
set_option maxHeartbeats 8000000 in
set_option maxRecDepth 100000 in
theorem sched_Owned.calls (k : Nat) (a0_0 a0_1 a0_2 a0_3 a0_4 a0_5 a0_6 a0_7 a0_8 a0_9 : Int) (A0_10 : Option Addr) (c0_10 : Nat) (l0_10 : List Int) (node t : Int) (w : World) (hr0_10 : Kd.C (Kd.int .i64) w A0_10 l0_10.length l0_10) (hc0_10 : l0_10.length ≤ c0_10) (h : conf_Plain.f k a0_0 a0_1 a0_2 a0_3 a0_4 a0_5 a0_6 a0_7 a0_8 a0_9 l0_10 = some t) :
  Calls Try.prog 115 #[.agg #[.int .i64 a0_0, .int .i64 a0_1, .int .i64 a0_2, .int .i64 a0_3, .int .i64 a0_4, .int .i64 a0_5, .int .i64 a0_6, .int .i64 a0_7, .int .i64 a0_8, .int .i64 a0_9, .slice A0_10 l0_10.length c0_10], .int .i64 node] w fun e w' => ∃ B1, e = .returned (.func (.func 126) #[] #[.pointer (some ⟨B1, 0, none⟩), .pointer (some ⟨w.heap.size, 0, none⟩), .pointer (some ⟨w.heap.size + 1, 0, none⟩)]) ∧ B1 < w'.heap.size ∧ w.heap.size + 1 < w'.heap.size ∧ w'.cell? ⟨B1, 0, none⟩ = some (.bool (t == 0)) ∧ w'.cell? ⟨w.heap.size, 10, none⟩ = some (.slice A0_10 l0_10.length c0_10) ∧ w'.cell? ⟨w.heap.size + 1, 0, none⟩ = some (.int .i64 node) ∧ Below w.heap.size w w' := by
 have HP := Aside0.mk h
 clear h
 go_enter Try.func115, Try.ntmps115
 have bk0 := blk_alloc (blk_new w (Obj.cells #[.int .i64 a0_0, .int .i64 a0_1, .int .i64 a0_2, .int .i64 a0_3, .int .i64 a0_4, .int .i64 a0_5, .int .i64 a0_6, .int .i64 a0_7, .int .i64 a0_8, .int .i64 a0_9, .slice A0_10 l0_10.length c0_10] 24)) (Obj.cells #[.int .i64 node] 3)
 have bk1 := blk_new (w.alloc (Obj.cells #[.int .i64 a0_0, .int .i64 a0_1, .int .i64 a0_2, .int .i64 a0_3, .int .i64 a0_4, .int .i64 a0_5, .int .i64 a0_6, .int .i64 a0_7, .int .i64 a0_8, .int .i64 a0_9, .slice A0_10 l0_10.length c0_10] 24)) (Obj.cells #[.int .i64 node] 3)
 rw [World.size_alloc] at bk1
 have hB := below_alloc (below_alloc (Below.refl _ w) (Obj.cells #[.int .i64 a0_0, .int .i64 a0_1, .int .i64 a0_2, .int .i64 a0_3, .int .i64 a0_4, .int .i64 a0_5, .int .i64 a0_6, .int .i64 a0_7, .int .i64 a0_8, .int .i64 a0_9, .slice A0_10 l0_10.length c0_10] 24)) (Obj.cells #[.int .i64 node] 3)
 have BK0 := Aside0.mk bk0
 have BK1 := Aside0.mk bk1
 have HB := Aside0.mk hB
 clear bk0 bk1 hB
 go_wp2_with fail
 refine (conf_Plain.calls k a0_0 a0_1 a0_2 a0_3 a0_4 a0_5 a0_6 a0_7 a0_8 a0_9 A0_10 c0_10 l0_10 t _ (Kd.C_alloc (Kd.C_alloc hr0_10 _) _) hc0_10 HP.out).mono ?_
 rintro e w1 ⟨rfl, hb⟩
 have b0 := blk_below BK0.out hb
 have b1 := blk_below BK1.out hb
 have HB1 := Aside0.mk (below_step HB.out hb)
 have BK2 := Aside0.mk b0
 have BK3 := Aside0.mk b1
 clear hb b0 b1 BK0 BK1 HB
 go_wp2
 go_ret
 have bn := blk_new w1 (Obj.cells #[.bool (t == 0)] 4)
 have b0 := blk_alloc BK2.out (Obj.cells #[.bool (t == 0)] 4)
 have b1 := blk_alloc BK3.out (Obj.cells #[.bool (t == 0)] 4)
 exact ⟨w1.heap.size, rfl, blk_lt bn, blk_lt b1, (blk_cell bn 0).trans rfl, (blk_cell b0 10).trans rfl, (blk_cell b1 0).trans rfl, below_alloc HB1.out _⟩
theorem ownedL_mem {l : List Int} {node : Int} {k : Nat} : ∀ {m : Nat}, k < m → rd l (k : Int) = node → (k : Int) ∈ ownedL l node m
 | m + 1, hk, he => by
  rw [ownedL]
  by_cases c : k = m
  ·subst c
   rw [if_pos he]
   exact List.mem_append_right _ (List.mem_cons_self ..)
  ·have := ownedL_mem (m := m) (by omega) he
   split
   ·exact List.mem_append_left _ this
   ·exact this
theorem ownedL_more (l : List Int) (node : Int) (k : Nat) : ∀ d, ∃ r, ownedL l node (k + d) = ownedL l node k ++ r
 | 0 => ⟨[], by simp⟩
 | d + 1 => by
  obtain ⟨r, hr⟩ := ownedL_more l node k d
  rw [show k + (d + 1) = (k + d) + 1 from rfl, ownedL, hr]
  split
  ·exact ⟨r ++ [((k + d : Nat) : Int)], by simp⟩
  ·exact ⟨r, rfl⟩
theorem keepsFrom_below {B : Nat} {W W' : World} (h : Below W.heap.size W W') : KeepsFrom B W W' := ⟨h.size, fun k _ _ hk _ => (h.block k (Array.getElem?_eq_some_iff.1 hk).1).trans hk⟩
theorem ownFrom_keptBut {β : Type} {N B : Nat} {X : Nat → Prop} {w₀ : World} (hN : N ≤ w₀.heap.size) (hB : N ≤ B) : OwnFrom B (fun (_ : β) W => KeptBut N X w₀ W) :=
 fun _ W W' row hs hg hr => hs.trans ⟨hg.size, fun k hk _ => hg.block k (by have := hs.size; omega) (fun e => by have := (hr k e.symm).1; omega)⟩
theorem KeptBut.set {N b : Nat} {X : Nat → Prop} (W : World) (v : Value) (hx : X b) : KeptBut N X W (W.setCell ⟨b, 0, none⟩ v) :=
 ⟨(grownBy_setCell' W b v).size, fun k _ hk => Below.heap_setCell _ _ _ k (fun e => hk (by rw [e]; exact hx))⟩
def sched_sentIn.f (a0 : ByteArray) (a1 : Int) : Option (Bool) := if a1 < (a0.size : Int) then (if 0 ≤ a1 then (some ((bt a0 a1) == 49)) else (none)) else (some false)
set_option maxHeartbeats 8000000 in
set_option maxRecDepth 100000 in
theorem sched_sentIn.calls (a0 : ByteArray) (a1 : Int) (r : Bool) (w : World) (h : sched_sentIn.f a0 a1 = some r) :
  Calls Try.prog 116 #[.string a0, .int .i64 a1] w fun e w' => e = .returned (.bool r) ∧ Drawn0 w w' := by
 have H : (if a1 < (a0.size : Int) then (if 0 ≤ a1 then (some ((bt a0 a1) == 49)) else (none)) else (some false)) = some r := h
 clear h
 by_cases c3 : a1 < (a0.size : Int)
 ·rw [if_pos c3] at H
  have c3b0 : decide (a1 < (a0.size : Int)) = true := decide_eq_true c3
  clear c3
  by_cases c4 : 0 ≤ a1
  ·rw [if_pos c4] at H
   have c4b0 : decide (0 ≤ a1) = true := decide_eq_true c4
   clear c4
   obtain rfl := Option.some.inj H
   have p5 : 0 ≤ (a1 : Int) := of_decide_eq_true (by first | (with_reducible assumption) | assumption)
   have q5 : a1 < (a0.size : Int) := of_decide_eq_true (by first | (with_reducible assumption) | assumption)
   have hx5 := bt_at a0 a1
   replace p5 := eq_true p5
   replace q5 := eq_true q5
   go_enter Try.func116, Try.ntmps116
   go_wp2
   go_ret
   exact ⟨by first | rfl | (simp; done) | (simp [*]; done), by repeat (first | exact Drawn0.refl _ | apply Drawn0.step)⟩
  ·rw [if_neg c4] at H
   exact absurd H (by simp)
 ·rw [if_neg c3] at H
  have c3b0 : decide (a1 < (a0.size : Int)) = false := decide_eq_false c3
  clear c3
  obtain rfl := Option.some.inj H
  go_enter Try.func116, Try.ntmps116
  go_wp2
  go_ret
  exact ⟨by first | rfl | (simp; done) | (simp [*]; done), by repeat (first | exact Drawn0.refl _ | apply Drawn0.step)⟩
/-- Whether a node is to send in a slot of its own. -/
def dueOne (k : Nat) (a0_0 a0_1 a0_2 a0_3 a0_4 a0_5 a0_6 a0_7 a0_8 a0_9 : Int) (l0_10 : List Int) (elapsed : Int) (sent : ByteArray) (y : Int) : Option Bool := (bound_Middle.f k a0_0 a0_1 a0_2 a0_3 a0_4 a0_5 a0_6 a0_7 a0_8 a0_9 l0_10 y).bind fun m => if elapsed < m then some false else if elapsed ≥ wrap64 (wrap64 (m + a0_4) + a0_5) then some false else (sched_sentIn.f sent y).bind fun b => some (!b)
def allD (f : Int → Option Bool) : List Int → Option Unit
 | [] => some ()
 | y :: ys => (f y).bind fun _ => allD f ys
def firstD (f : Int → Option Bool) : List Int → Int
 | [] => -1
 | y :: ys => if f y = some true then y else firstD f ys
theorem allD_mem {f : Int → Option Bool} : ∀ {ys : List Int}, allD f ys = some () → ∀ y ∈ ys, ∃ b, f y = some b
 | y :: ys, h, z, hz => by
  rw [allD] at h
  obtain ⟨b, hb, h⟩ := Option.bind_eq_some_iff.mp h
  rcases List.mem_cons.1 hz with rfl | hz
  ·exact ⟨b, hb⟩
  ·exact allD_mem h z hz
theorem firstD_none {f : Int → Option Bool} : ∀ {ys : List Int}, (∀ y ∈ ys, f y = some false) → firstD f ys = -1
 | [], _ => rfl
 | y :: ys, h => by
  rw [firstD, h y (List.mem_cons_self ..), if_neg (by simp)]
  exact firstD_none fun z hz => h z (List.mem_cons_of_mem _ hz)
theorem firstD_at {f : Int → Option Bool} {x : Int} {r : List Int} (hx : f x = some true) : ∀ {ys : List Int}, (∀ y ∈ ys, f y = some false) → firstD f (ys ++ x :: r) = x
 | [], _ => by rw [List.nil_append, firstD, if_pos hx]
 | y :: ys, h => by
  rw [List.cons_append, firstD, h y (List.mem_cons_self ..), if_neg (by simp)]
  exact firstD_at hx fun z hz => h z (List.mem_cons_of_mem _ hz)
theorem allD_leo {f g : Int → Option Bool} (h : ∀ y, LeO (f y) (g y)) : ∀ ys, LeO (allD f ys) (allD g ys)
 | [] => LeO.refl _
 | y :: ys => LeO.bind (h y) (fun _ => allD_leo h ys)
theorem firstD_congr {f g : Int → Option Bool} (h : ∀ y, LeO (f y) (g y)) : ∀ ys, allD f ys = some () → firstD f ys = firstD g ys
 | [], _ => rfl
 | y :: ys, hs => by
  rw [allD] at hs
  obtain ⟨b, hb, hs⟩ := Option.bind_eq_some_iff.mp hs
  rw [firstD, firstD, hb, h y b hb, firstD_congr h ys hs]
def sched_Due.f (k : Nat) (a0_0 a0_1 a0_2 a0_3 a0_4 a0_5 a0_6 a0_7 a0_8 a0_9 : Int) (l0_10 : List Int) (a1 a2 : Int) (a3 : ByteArray) : Option Int := (conf_Plain.f k a0_0 a0_1 a0_2 a0_3 a0_4 a0_5 a0_6 a0_7 a0_8 a0_9 l0_10).bind fun t => (allD (dueOne k a0_0 a0_1 a0_2 a0_3 a0_4 a0_5 a0_6 a0_7 a0_8 a0_9 l0_10 a2 a3) (ownedL l0_10 a1 (if t == 0 then l0_10.length else 0))).bind fun _ => some (firstD (dueOne k a0_0 a0_1 a0_2 a0_3 a0_4 a0_5 a0_6 a0_7 a0_8 a0_9 l0_10 a2 a3) (ownedL l0_10 a1 (if t == 0 then l0_10.length else 0)))
theorem dueOne_leo (k : Nat) (a0_0 a0_1 a0_2 a0_3 a0_4 a0_5 a0_6 a0_7 a0_8 a0_9 : Int) (l0_10 : List Int) (elapsed : Int) (sent : ByteArray) (y : Int) : LeO (dueOne k a0_0 a0_1 a0_2 a0_3 a0_4 a0_5 a0_6 a0_7 a0_8 a0_9 l0_10 elapsed sent y) (dueOne (k + 1) a0_0 a0_1 a0_2 a0_3 a0_4 a0_5 a0_6 a0_7 a0_8 a0_9 l0_10 elapsed sent y) := by
 unfold dueOne
 exact LeO.bind (bound_Middle.mono _ _ _ _ _ _ _ _ _ _ _ _ _) (fun _ => LeO.refl _)
theorem sched_Due.mono : ∀ a0 a1 a2 a3 a4 a5 a6 a7 a8 a9 a10 a11 a12 a13 k, LeO (sched_Due.f k a0 a1 a2 a3 a4 a5 a6 a7 a8 a9 a10 a11 a12 a13) (sched_Due.f (k + 1) a0 a1 a2 a3 a4 a5 a6 a7 a8 a9 a10 a11 a12 a13) := by
 intro a0 a1 a2 a3 a4 a5 a6 a7 a8 a9 a10 a11 a12 a13 k r h
 unfold sched_Due.f at h ⊢
 obtain ⟨t, ht, h⟩ := Option.bind_eq_some_iff.mp h
 obtain ⟨u, hu, h⟩ := Option.bind_eq_some_iff.mp h
 rw [conf_Plain.mono _ _ _ _ _ _ _ _ _ _ _ _ t ht, Option.bind_some, allD_leo (fun y => dueOne_leo _ _ _ _ _ _ _ _ _ _ _ _ _ _ _) _ u hu, Option.bind_some, ← h, firstD_congr (fun y => dueOne_leo k _ _ _ _ _ _ _ _ _ _ _ _ _ _) _ hu]
section
attribute [local go_sem] Oper.semAt_some
set_option maxRecDepth 100000 in
set_option maxHeartbeats 16000000 in
theorem sched_Due.calls (k : Nat) (a0_0 a0_1 a0_2 a0_3 a0_4 a0_5 a0_6 a0_7 a0_8 a0_9 : Int) (A0_10 : Option Addr) (c0_10 : Nat) (l0_10 : List Int) (a1 a2 : Int) (a3 : ByteArray) (r : Int) (w : World) (hr0_10 : Kd.C (Kd.int .i64) w A0_10 l0_10.length l0_10) (hc0_10 : l0_10.length ≤ c0_10) (h : sched_Due.f k a0_0 a0_1 a0_2 a0_3 a0_4 a0_5 a0_6 a0_7 a0_8 a0_9 l0_10 a1 a2 a3 = some r) :
  Calls Try.prog 91 #[.agg #[.int .i64 a0_0, .int .i64 a0_1, .int .i64 a0_2, .int .i64 a0_3, .int .i64 a0_4, .int .i64 a0_5, .int .i64 a0_6, .int .i64 a0_7, .int .i64 a0_8, .int .i64 a0_9, .slice A0_10 l0_10.length c0_10], .int .i64 a1, .int .i64 a2, .string a3] w fun e w' => e = .returned (.int .i64 r) ∧ Below w.heap.size w w' := by
 unfold sched_Due.f at h
 obtain ⟨t, ht, h⟩ := Option.bind_eq_some_iff.mp h
 obtain ⟨u, hu, h⟩ := Option.bind_eq_some_iff.mp h
 have HRES := Aside0.mk (Option.some.inj h)
 have hmax := Kd.C_max hr0_10
 have HP := Aside0.mk ht
 have HD := Aside0.mk hu
 clear h ht hu
 refine (callsIn_wide (n := 9)).1 ?_
 refine callsIn_of_wp_marks Try.func91 rfl trivial ?_ rfl
 simp only [Try.ntmps91, List.size_toArray, List.length_cons, List.length_nil, Nat.reduceAdd, Nat.reduceSub, Array.replicate_succ, Array.replicate_zero, List.push_toArray, List.append_toArray, List.nil_append, List.cons_append]
 have hC0 := blk_alloc (blk_alloc (blk_alloc (blk_new w (Obj.cells #[.int .i64 a0_0, .int .i64 a0_1, .int .i64 a0_2, .int .i64 a0_3, .int .i64 a0_4, .int .i64 a0_5, .int .i64 a0_6, .int .i64 a0_7, .int .i64 a0_8, .int .i64 a0_9, .slice A0_10 l0_10.length c0_10] 24)) (Obj.cells #[.int .i64 a2] 3)) (Obj.cells #[.string a3] 9)) (Obj.cells #[.int .i64 0] 3)
 have hC1 := blk_alloc (blk_alloc (blk_new (w.alloc (Obj.cells #[.int .i64 a0_0, .int .i64 a0_1, .int .i64 a0_2, .int .i64 a0_3, .int .i64 a0_4, .int .i64 a0_5, .int .i64 a0_6, .int .i64 a0_7, .int .i64 a0_8, .int .i64 a0_9, .slice A0_10 l0_10.length c0_10] 24)) (Obj.cells #[.int .i64 a2] 3)) (Obj.cells #[.string a3] 9)) (Obj.cells #[.int .i64 0] 3)
 have hC2 := blk_alloc (blk_new ((w.alloc (Obj.cells #[.int .i64 a0_0, .int .i64 a0_1, .int .i64 a0_2, .int .i64 a0_3, .int .i64 a0_4, .int .i64 a0_5, .int .i64 a0_6, .int .i64 a0_7, .int .i64 a0_8, .int .i64 a0_9, .slice A0_10 l0_10.length c0_10] 24)).alloc (Obj.cells #[.int .i64 a2] 3)) (Obj.cells #[.string a3] 9)) (Obj.cells #[.int .i64 0] 3)
 have hC3 := blk_new (((w.alloc (Obj.cells #[.int .i64 a0_0, .int .i64 a0_1, .int .i64 a0_2, .int .i64 a0_3, .int .i64 a0_4, .int .i64 a0_5, .int .i64 a0_6, .int .i64 a0_7, .int .i64 a0_8, .int .i64 a0_9, .slice A0_10 l0_10.length c0_10] 24)).alloc (Obj.cells #[.int .i64 a2] 3)).alloc (Obj.cells #[.string a3] 9)) (Obj.cells #[.int .i64 0] 3)
 have hsz : ((((w.alloc (Obj.cells #[.int .i64 a0_0, .int .i64 a0_1, .int .i64 a0_2, .int .i64 a0_3, .int .i64 a0_4, .int .i64 a0_5, .int .i64 a0_6, .int .i64 a0_7, .int .i64 a0_8, .int .i64 a0_9, .slice A0_10 l0_10.length c0_10] 24)).alloc (Obj.cells #[.int .i64 a2] 3)).alloc (Obj.cells #[.string a3] 9)).alloc (Obj.cells #[.int .i64 0] 3)).heap.size = w.heap.size + 1 + 1 + 1 + 1 := by simp only [World.size_alloc]
 have hB4 := below_alloc (below_alloc (below_alloc (below_alloc (Below.refl _ w) (Obj.cells #[.int .i64 a0_0, .int .i64 a0_1, .int .i64 a0_2, .int .i64 a0_3, .int .i64 a0_4, .int .i64 a0_5, .int .i64 a0_6, .int .i64 a0_7, .int .i64 a0_8, .int .i64 a0_9, .slice A0_10 l0_10.length c0_10] 24)) (Obj.cells #[.int .i64 a2] 3)) (Obj.cells #[.string a3] 9)) (Obj.cells #[.int .i64 0] 3)
 simp only [World.size_alloc] at hC1 hC2 hC3
 have HC0 := Aside0.mk hC0
 have HC1 := Aside0.mk hC1
 have HC2 := Aside0.mk hC2
 have HC3 := Aside0.mk hC3
 have HSZ := Aside0.mk hsz
 have HB4 := Aside0.mk hB4
 clear hC0 hC1 hC2 hC3 hsz hB4
 gi_wp2_with fail
 generalize ((((w.alloc (Obj.cells #[.int .i64 a0_0, .int .i64 a0_1, .int .i64 a0_2, .int .i64 a0_3, .int .i64 a0_4, .int .i64 a0_5, .int .i64 a0_6, .int .i64 a0_7, .int .i64 a0_8, .int .i64 a0_9, .slice A0_10 l0_10.length c0_10] 24)).alloc (Obj.cells #[.int .i64 a2] 3)).alloc (Obj.cells #[.string a3] 9)).alloc (Obj.cells #[.int .i64 0] 3)) = w4 at HC0 HC1 HC2 HC3 HSZ HB4 ⊢
 have hr4 := Kd.C_below hr0_10 HB4.out
 refine ⟨trivial, callsIn_wide.2 ((sched_Owned.calls k a0_0 a0_1 a0_2 a0_3 a0_4 a0_5 a0_6 a0_7 a0_8 a0_9 A0_10 c0_10 l0_10 a1 t w4 hr4 hc0_10 HP.out).mono ?_)⟩
 rintro e w5 ⟨B1, rfl, l1, l2, g1, g2, g3, hb5⟩
 have hsz := HSZ.out
 have HC0 := Aside0.mk (blk_below HC0.out hb5)
 have HC1 := Aside0.mk (blk_below HC1.out hb5)
 have HC2 := Aside0.mk (blk_below HC2.out hb5)
 have HC3 := Aside0.mk (blk_below HC3.out hb5)
 have HB5 := Aside0.mk (below_step HB4.out hb5)
 have hs5 := hb5.size
 have G1 := Aside0.mk g1
 have G2 := Aside0.mk g2
 have G3 := Aside0.mk g3
 have HL1 := Aside0.mk l1
 have HL2 := Aside0.mk l2
 have HR := Aside0.mk hr0_10
 have HH := Aside0.mk hc0_10
 clear g1 g2 g3 hb5 hr4 l1 l2 hs5 hsz HB4 hr0_10 hc0_10
 gi_wp2_with fail
 have hsz := HSZ.out
 have l1 := HL1.out
 have l2 := HL2.out
 have hr5 := Kd.C_below HR.out HB5.out
 refine wpIn_rangeFunc_ownG (w := w5) rfl (by omega) (gf := 126) (lb := #[.pointer (some ⟨B1, 0, none⟩), .pointer (some ⟨w4.heap.size, 0, none⟩), .pointer (some ⟨w4.heap.size + 1, 0, none⟩)]) rfl trivial (enters_of Try.func126 (by kernel_rfl) rfl)
  (sched_Owned1.stops (P := fun y => t = 0 → ∃ b, (dueOne k a0_0 a0_1 a0_2 a0_3 a0_4 a0_5 a0_6 a0_7 a0_8 a0_9 l0_10 a2 a3) y = some b) 8 (by omega) l0_10 a1 (fun j hj he h0 => allD_mem HD.out _ (by rw [h0]; exact ownedL_mem hj he)) (t == 0) A0_10 c0_10 (w4.heap.size + 1 + 1) (fun b => b = w.heap.size + 1 + 1 + 1) w5 HH.out (by omega) B1 w4.heap.size (w4.heap.size + 1) l1 (by omega) (by omega) (by omega) (by omega) G1.out G2.out G3.out
   (fun j hj => by
    obtain ⟨ad, e, hx⟩ := Kd.at_int hr5 (j : Int) (by omega) (by omega)
    obtain ⟨ad', e', hx'⟩ := Kd.at_int HR.out (j : Int) (by omega) (by omega)
    rw [e] at e'
    obtain rfl := Option.some.inj e'
    rw [Int.toNat_natCast] at hx hx'
    have hlt : (ad.add j).block < w.heap.size := by
     unfold World.cell? at hx'
     cases hq : w.heap[(ad.add j).block]? with
     | none => rw [hq] at hx'; simp at hx'
     | some o => exact blk_lt hq
    exact ⟨ad, e, by omega, by omega, hx⟩)) KeptBut.trans (fun W l o o' hl _ _ _ => KeptBut.put W l o' (by omega)) (Below.refl _ _) (fun _ => rfl)
  (fun pre W => ((∀ y ∈ pre, (dueOne k a0_0 a0_1 a0_2 a0_3 a0_4 a0_5 a0_6 a0_7 a0_8 a0_9 l0_10 a2 a3) y.1 = some false) ∧ W.cell? ⟨w.heap.size + 1 + 1 + 1, 0, none⟩ = some (.int .i64 0) ∧ W.frozen? ⟨w.heap.size + 1 + 1 + 1, 0, none⟩ = false) ∧ (KeptBut w5.heap.size (fun b => b = w.heap.size + 1 + 1 + 1) w5 W ∧ Below w.heap.size w W))
  (fun c pre W => (c = .ret ∧ ∃ ini last, pre = ini ++ [last] ∧ (∀ y ∈ ini, (dueOne k a0_0 a0_1 a0_2 a0_3 a0_4 a0_5 a0_6 a0_7 a0_8 a0_9 l0_10 a2 a3) y.1 = some false) ∧ (dueOne k a0_0 a0_1 a0_2 a0_3 a0_4 a0_5 a0_6 a0_7 a0_8 a0_9 l0_10 a2 a3) last.1 = some true ∧ W.cell? ⟨w.heap.size + 1 + 1 + 1, 0, none⟩ = some (.int .i64 last.1)) ∧ Below w.heap.size w W)
  (OwnFrom.and (Own.from (fun s A B row hs hg hr => ⟨hs.1, cell_kept hs.2.1 hg hr, (frozen_kept hs.2.1 hg hr).trans hs.2.2⟩) _) (OwnFrom.and (ownFrom_keptBut (Nat.le_refl _) (Nat.le_refl _)) (ownFrom_below (Nat.le_refl _) (by omega))))
  (fun c => OwnFrom.and (Own.from (fun s A B row hs hg hr => by obtain ⟨hc, ini, last, e1, e2, e3, e4⟩ := hs; exact ⟨hc, ini, last, e1, e2, e3, cell_kept e4 hg hr⟩) _) (ownFrom_below (Nat.le_refl _) (by omega)))
  ⟨⟨by simp, (blk_cell HC3.out 0).trans rfl, blk_frozen HC3.out 0⟩, KeptBut.refl _ _ _, HB5.out⟩
  (fun x => { tmps := #[.agg #[.int .i64 a0_0, .int .i64 a0_1, .int .i64 a0_2, .int .i64 a0_3, .int .i64 a0_4, .int .i64 a0_5, .int .i64 a0_6, .int .i64 a0_7, .int .i64 a0_8, .int .i64 a0_9, .slice A0_10 l0_10.length c0_10], .int .i64 a1, .int .i64 a2, .string a3, .pointer (some ⟨w.heap.size, 0, none⟩), undef, .pointer (some ⟨w.heap.size + 1, 0, none⟩), .pointer (some ⟨w.heap.size + 1 + 1, 0, none⟩), .pointer (some ⟨w.heap.size + 1 + 1 + 1, 0, none⟩), .int .i64 x.1, undef, .agg #[.int .i64 a0_0, .int .i64 a0_1, .int .i64 a0_2, .int .i64 a0_3, .int .i64 a0_4, .int .i64 a0_5, .int .i64 a0_6, .int .i64 a0_7, .int .i64 a0_8, .int .i64 a0_9, .slice A0_10 l0_10.length c0_10], .int .i64 a1, .func (.func 126) #[] #[.pointer (some ⟨B1, 0, none⟩), .pointer (some ⟨w4.heap.size, 0, none⟩), .pointer (some ⟨w4.heap.size + 1, 0, none⟩)], .int .i64 x.1, undef, undef, undef, undef, undef, undef, undef, undef, undef, undef, undef, undef, undef, undef, undef, undef, undef, undef, undef, undef, undef, undef, undef], defers := [] }) ?assign ?body ?done ?stop
 case assign =>
  intro l x W K hK
  clear hsz
  gi_wp2
  exact hK
 case body =>
  rintro lp pre x W ⟨⟨hp, hcr, hfr⟩, hK5, hB⟩ hlt
  have h0 : t = 0 := by
   by_cases c : t = 0
   ·exact c
   ·rw [beq_eq_false_iff_ne.2 c] at hlt
    exact absurd hlt (by simp)
  obtain ⟨b, hb⟩ := x.2 h0
  have hbx := hb
  unfold dueOne at hb
  obtain ⟨m, hm, hb⟩ := Option.bind_eq_some_iff.mp hb
  have bC := (hK5.same w.heap.size (by omega) (by omega)).trans HC0.out
  have bE := (hK5.same (w.heap.size + 1) (by omega) (by omega)).trans HC1.out
  have bS := (hK5.same (w.heap.size + 1 + 1) (by omega) (by omega)).trans HC2.out
  have hsW := hK5.size
  have hkW := Kd.C_below HR.out hB
  have HM := Aside0.mk hm
  have HBX := Aside0.mk hbx
  have HK5 := Aside0.mk hK5
  have HP5 := Aside0.mk hp
  have HBW := Aside0.mk hB
  have HKW := Aside0.mk hkW
  have BC := Aside0.mk bC
  have BE := Aside0.mk bE
  have BS := Aside0.mk bS
  have HCR := Aside0.mk hcr
  have HFR := Aside0.mk hfr
  have HSW := Aside0.mk hsW
  have hcE : W.cell? ⟨w.heap.size + 1, 0, none⟩ = some (.int .i64 a2) := (blk_cell bE 0).trans rfl
  have hcS : W.cell? ⟨w.heap.size + 1 + 1, 0, none⟩ = some (.string a3) := (blk_cell bS 0).trans rfl
  obtain ⟨hcz_0, hcz_1, hcz_2, hcz_3, hcz_4, hcz_5, hcz_6, hcz_7, hcz_8, hcz_9, hcz_10⟩ := cells_11 bC; obtain ⟨hfz_0, hfz_1, hfz_2, hfz_3, hfz_4, hfz_5, hfz_6, hfz_7, hfz_8, hfz_9, hfz_10⟩ := frozen_11 bC
  clear hm hbx hK5 hp hB hkW bC bE bS hcr hfr hsW hsz l1 l2 hr5 hlt
  gi_wp2_with fail
  refine ⟨trivial, CallsIn.inRound lp (callsIn_wide.2 ((bound_Middle.calls k a0_0 a0_1 a0_2 a0_3 a0_4 a0_5 a0_6 a0_7 a0_8 a0_9 A0_10 c0_10 l0_10 x.1 m W HKW.out HH.out HM.out).mono ?_))⟩
  rintro e W1 ⟨rfl, hb1⟩
  have hN1 : w4.heap.size + 1 + 1 ≤ W.heap.size := by have := HSW.out; have := HL2.out; omega
  have hRW : w.heap.size + 1 + 1 + 1 < W.heap.size := by have := HSZ.out; omega
  have hcR1 : W1.cell? ⟨w.heap.size + 1 + 1 + 1, 0, none⟩ = some (.int .i64 0) := (hb1.cell (p := ⟨w.heap.size + 1 + 1 + 1, 0, none⟩) hRW).trans HCR.out
  have hfR1 : W1.frozen? ⟨w.heap.size + 1 + 1 + 1, 0, none⟩ = false := (hb1.frozen (p := ⟨w.heap.size + 1 + 1 + 1, 0, none⟩) hRW).trans HFR.out
  have hcE1 : W1.cell? ⟨w.heap.size + 1, 0, none⟩ = some (.int .i64 a2) := (hb1.cell (p := ⟨w.heap.size + 1, 0, none⟩) (by show w.heap.size + 1 < _; omega)).trans hcE
  have hcS1 : W1.cell? ⟨w.heap.size + 1 + 1, 0, none⟩ = some (.string a3) := (hb1.cell (p := ⟨w.heap.size + 1 + 1, 0, none⟩) (by show w.heap.size + 1 + 1 < _; omega)).trans hcS
  have bC1 := blk_below BC.out hb1
  clear hcz_0 hcz_1 hcz_2 hcz_3 hcz_4 hcz_5 hcz_6 hcz_7 hcz_8 hcz_9 hcz_10 hfz_0 hfz_1 hfz_2 hfz_3 hfz_4 hfz_5 hfz_6 hfz_7 hfz_8 hfz_9 hfz_10
  obtain ⟨hcz_0, hcz_1, hcz_2, hcz_3, hcz_4, hcz_5, hcz_6, hcz_7, hcz_8, hcz_9, hcz_10⟩ := cells_11 bC1; obtain ⟨hfz_0, hfz_1, hfz_2, hfz_3, hfz_4, hfz_5, hfz_6, hfz_7, hfz_8, hfz_9, hfz_10⟩ := frozen_11 bC1
  have HN1 := Aside0.mk hN1
  have HRW := Aside0.mk hRW
  have HB1 := Aside0.mk hb1
  clear hcE hcS hN1 hRW bC1 hb1
  by_cases c1 : a2 < m
  ·rw [if_pos c1] at hb
   obtain rfl := Option.some.inj hb
   have c1d : decide (a2 < m) = true := decide_eq_true c1
   clear c1 hb
   gi_wp2
   refine ⟨trivial, ?_⟩
   gi_wp2
   have hb1 := HB1.out
   have hN1 := HN1.out
   exact ⟨keepsFrom_below hb1, KeptBut.below hb1 hN1, ⟨⟨fun y hy => (List.mem_append.1 hy).elim (HP5.out y) (fun e => by simp at e; subst e; exact HBX.out), hcR1, hfR1⟩, KeptBut.trans HK5.out (KeptBut.below hb1 HSW.out), below_step HBW.out hb1⟩⟩
  ·rw [if_neg c1] at hb
   have c1d : decide (a2 < m) = false := decide_eq_false c1
   clear c1
   by_cases c2 : a2 ≥ wrap64 (wrap64 (m + a0_4) + a0_5)
   ·rw [if_pos c2] at hb
    obtain rfl := Option.some.inj hb
    have c2d : decide (wrap64 (wrap64 (m + a0_4) + a0_5) ≤ a2) = true := decide_eq_true c2
    clear c2 hb
    gi_wp2
    refine ⟨trivial, ?_⟩
    gi_wp2
    have hb1 := HB1.out
    have hN1 := HN1.out
    exact ⟨keepsFrom_below hb1, KeptBut.below hb1 hN1, ⟨⟨fun y hy => (List.mem_append.1 hy).elim (HP5.out y) (fun e => by simp at e; subst e; exact HBX.out), hcR1, hfR1⟩, KeptBut.trans HK5.out (KeptBut.below hb1 HSW.out), below_step HBW.out hb1⟩⟩
   ·rw [if_neg c2] at hb
    obtain ⟨bb, hs, hb⟩ := Option.bind_eq_some_iff.mp hb
    obtain rfl := Option.some.inj hb
    have c2d : decide (wrap64 (wrap64 (m + a0_4) + a0_5) ≤ a2) = false := decide_eq_false c2
    have HS := Aside0.mk hs
    clear c2 hb hs
    cases bb with
    | true =>
     gi_wp2_with fail
     refine ⟨trivial, CallsIn.inRound lp (callsIn_wide.2 ((sched_sentIn.calls a3 x.1 true _ HS.out).mono ?_))⟩
     rintro e W2 ⟨rfl, ⟨n2, rfl⟩⟩
     gi_wp2
     have hb1 := pw_below_drewN HB1.out n2
     have hN1 := HN1.out
     exact ⟨keepsFrom_below hb1, KeptBut.below hb1 hN1, ⟨⟨fun y hy => (List.mem_append.1 hy).elim (HP5.out y) (fun e => by simp at e; subst e; exact HBX.out), hcR1, hfR1⟩, KeptBut.trans HK5.out (KeptBut.below hb1 HSW.out), below_step HBW.out hb1⟩⟩
    | false =>
     gi_wp2_with fail
     refine ⟨trivial, CallsIn.inRound lp (callsIn_wide.2 ((sched_sentIn.calls a3 x.1 false _ HS.out).mono ?_))⟩
     rintro e W2 ⟨rfl, ⟨n2, rfl⟩⟩
     gi_wp2
     have hb1 := pw_below_drewN HB1.out n2
     exact ⟨KeepsFrom.trans (keepsFrom_below hb1) ((KeepsOthers.setCell _ _ _).from _), ⟨rfl, pre, x, rfl, HP5.out, HBX.out, World.cell?_setCell_same' _ _ _ (by show (W1.cell? _).isSome = true; rw [hcR1]; rfl)⟩, (below_step HBW.out hb1).setCell (p := ⟨w.heap.size + 1 + 1 + 1, 0, none⟩) (by show w.heap.size ≤ w.heap.size + 1 + 1 + 1; omega) _⟩
 case done =>
  rintro D ys W hD rfl ⟨⟨hne, hcr, hfr⟩, hK5, hB⟩ hK
  clear hsz l1 l2 hr5
  gi_wp2
  have hD2 : w.heap.size ≤ D := by have := HL2.out; have := HSZ.out; omega
  have hK' := (KeepsOthers.setCell W ⟨w.heap.size + 1 + 1 + 1, 0, none⟩ (.int .i64 (-1))).same D _ hK rfl
  refine ⟨by simp, .inl ⟨_, _, rfl, run_takeDeferred hK', ?_⟩⟩
  have hc5 := cell_kept (World.cell?_setCell_same' W ⟨w.heap.size + 1 + 1 + 1, 0, none⟩ (.int .i64 (-1)) (by rw [hcr]; rfl)) (grownBy_putObj' _ D (.deferred none)) (fun r e => by cases e; exact ⟨_, hK', rfl⟩)
  have hfirst : firstD (dueOne k a0_0 a0_1 a0_2 a0_3 a0_4 a0_5 a0_6 a0_7 a0_8 a0_9 l0_10 a2 a3) (ownedL l0_10 a1 (if t == 0 then l0_10.length else 0)) = -1 := by
   refine firstD_none fun y hy => ?_
   rw [← ups_val l0_10 a1 (P := fun y => t = 0 → ∃ b, (dueOne k a0_0 a0_1 a0_2 a0_3 a0_4 a0_5 a0_6 a0_7 a0_8 a0_9 l0_10 a2 a3) y = some b) (fun j hj he h0 => allD_mem HD.out _ (by rw [h0]; exact ownedL_mem hj he)) _ (by split <;> omega)] at hy
   obtain ⟨z, hz, rfl⟩ := List.mem_map.1 hy
   exact hne z hz
  refine ⟨.int .i64 (-1), ?_, by rw [← HRES.out, hfirst], (hB.setCell (p := ⟨w.heap.size + 1 + 1 + 1, 0, none⟩) (by show w.heap.size ≤ w.heap.size + 1 + 1 + 1; omega) _).trans (belowK_b (w := w) (Nat.le_refl _) _ D _ _ hD2 hK' rfl rfl)⟩
  simp [results, Try.f91, go_sem, hc5]
 case stop =>
  rintro D c pre W hD ⟨kk, hk, rfl⟩ ⟨⟨rfl, ini, last, e1, e2, e3, hcr⟩, hB⟩ hK
  clear hsz l1 l2 hr5
  gi_wp2
  have hD2 : w.heap.size ≤ D := by have := HL2.out; have := HSZ.out; omega
  refine ⟨by simp, .inl ⟨_, _, rfl, run_takeDeferred hK, ?_⟩⟩
  have hc5 := cell_kept hcr (grownBy_putObj' _ D (.deferred none)) (fun r e => by cases e; exact ⟨_, hK, rfl⟩)
  have hfirst : firstD (dueOne k a0_0 a0_1 a0_2 a0_3 a0_4 a0_5 a0_6 a0_7 a0_8 a0_9 l0_10 a2 a3) (ownedL l0_10 a1 (if t == 0 then l0_10.length else 0)) = last.1 := by
   obtain ⟨r, hr⟩ := ownedL_more l0_10 a1 kk ((if t == 0 then l0_10.length else 0) - kk)
   rw [show kk + ((if t == 0 then l0_10.length else 0) - kk) = (if t == 0 then l0_10.length else 0) from by omega] at hr
   have hv := ups_val l0_10 a1 (P := fun y => t = 0 → ∃ b, (dueOne k a0_0 a0_1 a0_2 a0_3 a0_4 a0_5 a0_6 a0_7 a0_8 a0_9 l0_10 a2 a3) y = some b) (fun j hj he h0 => allD_mem HD.out _ (by rw [h0]; exact ownedL_mem hj he)) kk (by revert hk; split <;> omega)
   rw [e1, List.map_append] at hv
   rw [hr, ← hv, List.append_assoc]
   refine firstD_at e3 fun y hy => ?_
   obtain ⟨z, hz, rfl⟩ := List.mem_map.1 hy
   exact e2 z hz
  refine ⟨.int .i64 last.1, ?_, by rw [← HRES.out, hfirst], hB.trans (belowK_b (w := w) (Nat.le_refl _) W D _ _ hD2 hK rfl rfl)⟩
  simp [results, Try.f91, go_sem, hc5]
end
end Go.Proofs.Ytdcknaoamjlaiaa.Gn
