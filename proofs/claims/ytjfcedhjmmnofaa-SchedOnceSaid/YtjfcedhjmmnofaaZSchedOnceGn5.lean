import Derived.Test.YtjfcedhjmmnofaaZSchedOnceGn0
import Derived.Test.YtjfcedhjmmnofaaZSchedOnceGn2
import Derived.RangeFuncNested
import Derived.RangeFuncBound
import Derived.RangeFuncCalls
import Derived.RangeFuncLeaves
import Derived.RangeFuncBox
import Derived.Shelf.Abstract
import Derived.Shelf.RegionOpen
import Derived.WalkKit
import Derived.OwnWalkIn
import Derived.TacticsInMore
import Derived.LoopNIn
import Derived.LoopIn
namespace Go.Proofs.Ytjfcedhjmmnofaa.Gn
open Go.RowKit Go.Proofs.YtjfcedhjmmnofaaW.PrintWords Go.Proofs.YtjfcedhjmmnofaaW.PrintLast Go.Proofs.YtjfcedhjmmnofaaW.PrintMore
attribute [local go_sem] max2_int min2_int max_two min_two max_three min_three max_four min_four   -- for this text's walks alone
set_option linter.unusedVariables false
set_option linter.unusedSimpArgs false
/-- What an iterator over slots asks of a round: whatever lay below N, but for X, lies as it lay. -/
structure KeptBut (N : Nat) (X : Nat → Prop) (W W' : World) : Prop where
  size : W.heap.size ≤ W'.heap.size
  same : ∀ k, k < N → ¬ X k → W'.heap[k]? = W.heap[k]?
theorem KeptBut.refl (N : Nat) (X : Nat → Prop) (W : World) : KeptBut N X W W := ⟨Nat.le_refl _, fun _ _ _ => rfl⟩
theorem KeptBut.trans {N : Nat} {X : Nat → Prop} {A B C : World} (h : KeptBut N X A B) (k : KeptBut N X B C) : KeptBut N X A C := ⟨Nat.le_trans h.size k.size, fun i hi hx => (k.same i hi hx).trans (h.same i hi hx)⟩
theorem KeptBut.cell {N : Nat} {X : Nat → Prop} {A B : World} (h : KeptBut N X A B) {p : Addr} (hb : p.block < N) (hx : ¬ X p.block) : B.cell? p = A.cell? p := by
  unfold World.cell?
  rw [h.same _ hb hx]
theorem KeptBut.below {N : Nat} {X : Nat → Prop} {A B : World} (h : Below A.heap.size A B) (hN : N ≤ A.heap.size) : KeptBut N X A B := ⟨h.size, fun k hk _ => h.block k (by omega)⟩
theorem KeptBut.put {N : Nat} {X : Nat → Prop} (W : World) (l : Nat) (o' : Obj) (h : N ≤ l) : KeptBut N X W (W.putObj l o') := by
  have hb := belowK_b (w := W) (n₀ := N)
  refine ⟨?_, fun k hk _ => ?_⟩
  · simp [World.putObj]
  · simp only [World.putObj]
    rw [Array.getElem?_setIfInBounds_ne (by omega)]
theorem KeptBut.over {N b : Nat} {X : Nat → Prop} (W : World) (v : Value) (h : N ≤ b) : KeptBut N X W (W.setCell ⟨b, 0, none⟩ v) :=
  ⟨(grownBy_setCell' W b v).size, fun k hk _ => Below.heap_setCell _ _ _ k (fun e => by have e' : k = b := e; omega)⟩
/-- A node's slots among the first ones of a table. -/
def ownedL (l : List Int) (node : Int) : Nat → List Int
  | 0 => []
  | k + 1 => if rd l (k : Int) = node then ownedL l node k ++ [(k : Int)] else ownedL l node k
def ups {P : Int → Prop} (l : List Int) (node : Int) (hP : ∀ k : Nat, k < l.length → rd l (k : Int) = node → P k) : Nat → List { x : Int // P x }
  | 0 => []
  | k + 1 => if h : k < l.length ∧ rd l (k : Int) = node then ups l node hP k ++ [⟨k, hP k h.1 h.2⟩] else ups l node hP k
theorem ups_len {P : Int → Prop} (l : List Int) (node : Int) (hP : ∀ k : Nat, k < l.length → rd l (k : Int) = node → P k) : ∀ k, (ups l node hP k).length ≤ k
  | 0 => Nat.le_refl _
  | k + 1 => by
    have := ups_len l node hP k
    rw [ups]
    split
    · rw [List.length_append]; exact Nat.succ_le_succ this
    · omega
theorem ups_val {P : Int → Prop} (l : List Int) (node : Int) (hP : ∀ k : Nat, k < l.length → rd l (k : Int) = node → P k) : ∀ k, k ≤ l.length → (ups l node hP k).map (·.1) = ownedL l node k
  | 0, _ => rfl
  | k + 1, h => by
    have ih := ups_val l node hP k (by omega)
    rw [ups, ownedL]
    by_cases c : rd l (k : Int) = node
    · rw [dif_pos ⟨by omega, c⟩, if_pos c, List.map_append, ih]; rfl
    · rw [dif_neg (fun x => c x.2), if_neg c, ih]
set_option maxRecDepth 100000 in
set_option maxHeartbeats 8000000 in
theorem sched_Owned1.stops {P : Int → Prop} (n : Nat) (hn : 1 ≤ n) (l : List Int) (node : Int) (hP : ∀ k : Nat, k < l.length → rd l (k : Int) = node → P k) (plain : Bool) (A : Option Addr) (c N : Nat) (X : Nat → Prop) (w : World) (hl : l.length ≤ c) (hmax : (l.length : Int) ≤ 9223372036854775807) (B1 B2 B3 : Nat)
    (h1 : B1 < w.heap.size) (h2 : B2 < w.heap.size) (h3 : B3 < N) (hx3 : ¬ X B3) (hN : N ≤ w.heap.size)
    (g1 : w.cell? ⟨B1, 0, none⟩ = some (.bool plain)) (g2 : w.cell? ⟨B2, 10, none⟩ = some (.slice A l.length c)) (g3 : w.cell? ⟨B3, 0, none⟩ = some (.int .i64 node))
    (hT : ∀ j : Nat, j < l.length → ∃ ad : Addr, A = some ad ∧ (ad.add j).block < N ∧ ¬ X (ad.add j).block ∧ w.cell? (ad.add j) = some (.int .i64 (rd l (j : Int)))) :
    SeqStopsK Fence.wide n Try.prog 54 #[.pointer (some ⟨B1, 0, none⟩), .pointer (some ⟨B2, 0, none⟩), .pointer (some ⟨B3, 0, none⟩)] (fun x : { x : Int // P x } => #[Value.int .i64 x.1]) (KeptBut N X) (fun ys => ys = ups l node hP (if plain then l.length else 0)) (fun pre => ∃ k, k ≤ (if plain then l.length else 0) ∧ pre = ups l node hP k) (if plain then l.length else 0) w := fun lp J Jx W hW _ _ hY h0 => by
  have g1' := (hW.cell (p := ⟨B1, 0, none⟩) h1).trans g1
  have g2' := (hW.cell (p := ⟨B2, 10, none⟩) h2).trans g2
  have g3' := (hW.cell (p := ⟨B3, 0, none⟩) (by show B3 < w.heap.size; omega)).trans g3
  have hT' : ∀ j : Nat, j < l.length → ∃ ad : Addr, A = some ad ∧ (ad.add j).block < N ∧ ¬ X (ad.add j).block ∧ W.cell? (ad.add j) = some (.int .i64 (rd l (j : Int))) := fun j hj => by
    obtain ⟨ad, e, hb, hx, hc⟩ := hT j hj
    exact ⟨ad, e, hb, hx, (hW.cell (p := ad.add j) (by omega)).trans hc⟩
  refine callsIn_of_wp Try.func54 rfl trivial ?_ rfl
  simp only [Try.ntmps54, List.size_toArray, List.length_cons, List.length_nil, Nat.reduceAdd, Nat.reduceSub, Array.replicate_succ, Array.replicate_zero, List.push_toArray, List.append_toArray, List.nil_append, List.cons_append]
  cases plain with
  | false =>
    gi_wp2
    refine bodyPost_ret (results_none rfl _ _ _) rfl ?_
    exact ⟨⟨_, rfl⟩, .inl h0⟩
  | true =>
    gi_wp2
    gi_loopw [12] (fun i wr => ∃ k : Nat, k ≤ l.length ∧ i = .int .i64 k ∧ J (ups l node hP k) wr ∧ KeptBut N X W wr)
      (fun i _ => l.length - (intOf i).toNat)
    case atStart => exact ⟨0, Nat.zero_le _, rfl, h0, KeptBut.refl _ _ _⟩
    case round =>
      obtain ⟨k, hk, rfl, hJs, hnx⟩ := hrel
      by_cases hlt : k < l.length
      · obtain ⟨ad, rfl, hb, hx, hc⟩ := hT' k hlt
        have hcx := (hnx.cell hb hx).trans hc
        have g3x := (hnx.cell (p := ⟨B3, 0, none⟩) h3 hx3).trans g3'
        clear hT hT' hc
        by_cases he : rd l (k : Int) = node
        · obtain ⟨fn, tmps, assign, body, hy, hR⟩ := hY (ups l node hP k) ⟨k, hP k hlt he⟩ wr hJs (by have := ups_len l node hP k; show _ < l.length; omega)
          dsimp only at hy
          have eu : ups l node hP (k + 1) = ups l node hP k ++ [⟨k, hP k hlt he⟩] := by rw [ups, dif_pos ⟨hlt, he⟩]
          have he1 : (rd l (k : Int) == node) = true := beq_iff_eq.mpr he
          clear hY
          gi_wp2
          refine hR.mono ?_
          rintro e W3 (⟨rfl, hJ3, hk3⟩ | ⟨rfl, hJx3⟩)
          · gi_wp2
            go_roundw
            case rel => exact ⟨k + 1, by omega, by simp, by rw [eu]; exact hJ3, hnx.trans hk3⟩
            case measure => simp [intOf]; omega
          · gi_wp2
            refine bodyPost_ret (results_none rfl _ _ _) rfl ?_
            exact ⟨⟨_, rfl⟩, .inr ⟨_, ⟨k + 1, by show _ ≤ l.length; omega, eu.symm⟩, hJx3⟩⟩
        · have eu : ups l node hP (k + 1) = ups l node hP k := by rw [ups, dif_neg (fun x => he x.2)]
          have he1 : (rd l (k : Int) == node) = false := beq_eq_false_iff_ne.mpr he
          clear hY
          gi_wp2
          refine ⟨fun _ h => (by cases h), ?_⟩
          gi_wp2
          go_roundw
          case rel => exact ⟨k + 1, by omega, by simp, by rw [eu]; exact hJs, hnx⟩
          case measure => simp [intOf]; omega
      · obtain rfl : k = l.length := by omega
        clear hT hT'
        gi_wp2
        go_end0
        exact ⟨⟨_, rfl⟩, .inl hJs⟩
set_option maxHeartbeats 8000000 in
set_option maxRecDepth 100000 in
theorem sched_Owned.calls (k : Nat) (a0_0 a0_1 a0_2 a0_3 a0_4 a0_5 a0_6 a0_7 a0_8 a0_9 : Int) (A0_10 : Option Addr) (c0_10 : Nat) (l0_10 : List Int) (node t : Int) (w : World) (hr0_10 : Kd.C (Kd.int .i64) w A0_10 l0_10.length l0_10) (hc0_10 : l0_10.length ≤ c0_10) (h : conf_Plain.f k a0_0 a0_1 a0_2 a0_3 a0_4 a0_5 a0_6 a0_7 a0_8 a0_9 l0_10 = some t) :
    Calls Try.prog 23 #[.agg #[.int .i64 a0_0, .int .i64 a0_1, .int .i64 a0_2, .int .i64 a0_3, .int .i64 a0_4, .int .i64 a0_5, .int .i64 a0_6, .int .i64 a0_7, .int .i64 a0_8, .int .i64 a0_9, .slice A0_10 l0_10.length c0_10], .int .i64 node] w fun e w' => ∃ B1, e = .returned (.func (.func 54) #[] #[.pointer (some ⟨B1, 0, none⟩), .pointer (some ⟨w.heap.size, 0, none⟩), .pointer (some ⟨w.heap.size + 1, 0, none⟩)]) ∧ B1 < w'.heap.size ∧ w.heap.size + 1 < w'.heap.size ∧ w'.cell? ⟨B1, 0, none⟩ = some (.bool (t == 0)) ∧ w'.cell? ⟨w.heap.size, 10, none⟩ = some (.slice A0_10 l0_10.length c0_10) ∧ w'.cell? ⟨w.heap.size + 1, 0, none⟩ = some (.int .i64 node) ∧ Below w.heap.size w w' := by
  have HP := Aside0.mk h
  clear h
  go_enter Try.func23, Try.ntmps23
  have bk0 := blk_alloc (blk_new w (Obj.cells #[.int .i64 a0_0, .int .i64 a0_1, .int .i64 a0_2, .int .i64 a0_3, .int .i64 a0_4, .int .i64 a0_5, .int .i64 a0_6, .int .i64 a0_7, .int .i64 a0_8, .int .i64 a0_9, .slice A0_10 l0_10.length c0_10] 24)) (Obj.cells #[.int .i64 node] 3)
  have bk1 := blk_new (w.alloc (Obj.cells #[.int .i64 a0_0, .int .i64 a0_1, .int .i64 a0_2, .int .i64 a0_3, .int .i64 a0_4, .int .i64 a0_5, .int .i64 a0_6, .int .i64 a0_7, .int .i64 a0_8, .int .i64 a0_9, .slice A0_10 l0_10.length c0_10] 24)) (Obj.cells #[.int .i64 node] 3)
  rw [World.size_alloc] at bk1
  have hB := below_alloc (below_alloc (Below.refl _ w) (Obj.cells #[.int .i64 a0_0, .int .i64 a0_1, .int .i64 a0_2, .int .i64 a0_3, .int .i64 a0_4, .int .i64 a0_5, .int .i64 a0_6, .int .i64 a0_7, .int .i64 a0_8, .int .i64 a0_9, .slice A0_10 l0_10.length c0_10] 24)) (Obj.cells #[.int .i64 node] 3)
  have BK0 := Aside0.mk bk0
  have BK1 := Aside0.mk bk1
  have HB := Aside0.mk hB
  clear bk0 bk1 hB
  go_wp2_with fail
  refine (conf_Plain.calls k a0_0 a0_1 a0_2 a0_3 a0_4 a0_5 a0_6 a0_7 a0_8 a0_9 A0_10 c0_10 l0_10 t _ (Kd.C_alloc (Kd.C_alloc hr0_10 _) _) hc0_10 HP.out).mono ?_
  rintro e w1 ⟨rfl, hb⟩
  have b0 := blk_below BK0.out hb
  have b1 := blk_below BK1.out hb
  have HB1 := Aside0.mk (below_step HB.out hb)
  have BK2 := Aside0.mk b0
  have BK3 := Aside0.mk b1
  clear hb b0 b1 BK0 BK1 HB
  go_wp2
  go_ret
  have bn := blk_new w1 (Obj.cells #[.bool (t == 0)] 4)
  have b0 := blk_alloc BK2.out (Obj.cells #[.bool (t == 0)] 4)
  have b1 := blk_alloc BK3.out (Obj.cells #[.bool (t == 0)] 4)
  exact ⟨w1.heap.size, rfl, blk_lt bn, blk_lt b1, (blk_cell bn 0).trans rfl, (blk_cell b0 10).trans rfl, (blk_cell b1 0).trans rfl, below_alloc HB1.out _⟩
theorem ownedL_mem {l : List Int} {node : Int} {k : Nat} : ∀ {m : Nat}, k < m → rd l (k : Int) = node → (k : Int) ∈ ownedL l node m
  | m + 1, hk, he => by
    rw [ownedL]
    by_cases c : k = m
    · subst c
      rw [if_pos he]
      exact List.mem_append_right _ (List.mem_cons_self ..)
    · have := ownedL_mem (m := m) (by omega) he
      split
      · exact List.mem_append_left _ this
      · exact this
theorem ownedL_more (l : List Int) (node : Int) (k : Nat) : ∀ d, ∃ r, ownedL l node (k + d) = ownedL l node k ++ r
  | 0 => ⟨[], by simp⟩
  | d + 1 => by
    obtain ⟨r, hr⟩ := ownedL_more l node k d
    rw [show k + (d + 1) = (k + d) + 1 from rfl, ownedL, hr]
    split
    · exact ⟨r ++ [((k + d : Nat) : Int)], by simp⟩
    · exact ⟨r, rfl⟩
theorem keepsFrom_below {B : Nat} {W W' : World} (h : Below W.heap.size W W') : KeepsFrom B W W' := ⟨h.size, fun k _ _ hk _ => (h.block k (Array.getElem?_eq_some_iff.1 hk).1).trans hk⟩
theorem ownFrom_keptBut {β : Type} {N B : Nat} {X : Nat → Prop} {w₀ : World} (hN : N ≤ w₀.heap.size) (hB : N ≤ B) : OwnFrom B (fun (_ : β) W => KeptBut N X w₀ W) :=
  fun _ W W' row hs hg hr => hs.trans ⟨hg.size, fun k hk _ => hg.block k (by have := hs.size; omega) (fun e => by have := (hr k e.symm).1; omega)⟩
theorem KeptBut.set {N b : Nat} {X : Nat → Prop} (W : World) (v : Value) (hx : X b) : KeptBut N X W (W.setCell ⟨b, 0, none⟩ v) :=
  ⟨(grownBy_setCell' W b v).size, fun k _ hk => Below.heap_setCell _ _ _ k (fun e => hk (by rw [e]; exact hx))⟩
end Go.Proofs.Ytjfcedhjmmnofaa.Gn
