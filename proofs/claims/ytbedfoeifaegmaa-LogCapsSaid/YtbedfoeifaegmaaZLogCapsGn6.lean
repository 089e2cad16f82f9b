import Derived.Test.YtbedfoeifaegmaaZLogCapsGn0
import Derived.Test.YtbedfoeifaegmaaZLogCapsGn2
import Derived.Test.YtbedfoeifaegmaaZLogCapsGn5
import Derived.Shelf.Abstract
import Derived.Maps.OwnIn
import Derived.Maps.RangeWalk
import Derived.Maps.Ext
import Derived.RangeFuncNested
import Derived.RangeFuncBound
import Derived.RangeFuncCalls
import Derived.RangeFuncLeaves
import Derived.RangeFuncBox
import Derived.Shelf.RegionOpen
import Derived.WalkKit
import Derived.OwnWalkIn
import Derived.TacticsInMore
import Derived.LoopNIn
import Derived.LoopIn
namespace Go.Proofs.Ytbedfoeifaegmaa.Gn
open Go.RowKit Go.Proofs.YtbedfoeifaegmaaW.PrintWords Go.Proofs.YtbedfoeifaegmaaW.PrintLast Go.Proofs.YtbedfoeifaegmaaW.PrintMore
attribute [local go_sem] max2_int min2_int max_two min_two max_three min_three max_four min_four   -- for this text's walks alone
set_option linter.unusedVariables false
set_option linter.unusedSimpArgs false
def log_view_sees.f (a0_0 a0_1 a1_0 a1_1 : Int) : Option (Bool) := (ring_Signed.f a0_0 a1_1).bind fun t403 => (if t403 ≥ 0 then (some (decide (t403 < a0_1))) else (some false))
set_option maxHeartbeats 8000000 in
set_option maxRecDepth 100000 in
theorem log_view_sees.calls (a0_0 a0_1 a1_0 a1_1 : Int) (r : Bool) (w : World) (h : log_view_sees.f a0_0 a0_1 a1_0 a1_1 = some r) :
  Calls Try.prog 43 #[.agg #[.int .i64 a0_0, .int .i64 a0_1], .agg #[.int .i64 a1_0, .int .i64 a1_1]] w fun e w' => e = .returned (.bool r) ∧ Below w.heap.size w w' := by
 have hu60 := Try.underlying60
 have hu43 := Try.underlying43
 have HB := Aside0.mk (Below.refl w.heap.size w)
 have H : ((ring_Signed.f a0_0 a1_1).bind fun t403 => (if t403 ≥ 0 then (some (decide (t403 < a0_1))) else (some false))) = some r := h
 clear h
 replace H := Option.bind_eq_some_iff.mp H
 obtain ⟨t403, A30, H⟩ := H
 try dsimp only at H
 have A3 := Aside0.mk A30
 clear A30
 by_cases c4 : t403 ≥ 0
 ·rw [if_pos c4] at H
  have c4b0 : decide (0 ≤ t403) = true := decide_eq_true c4
  clear c4
  obtain rfl := Option.some.inj H
  go_enter Try.func43, Try.ntmps43
  go_wp2_with (first | ((with_reducible refine gate_dst (N := 2) rfl ?_); refine box_event ?hg (N := 2) ?hd (cs := #[.int .i64 a0_0, .int .i64 a0_1]) (t := 60) ?hr ?_; (case hd => rfl); (case hg => rfl); (case hr => first | (go_simp; done) | (go_simp; rfl)); intro gb401 hg w5 hbox hb; have q0_ := below_of hb (by repeat (first | (with_reducible first | exact HB.out | apply below_alloc | apply pw_below_drewN | apply below_drew1) | exact HB.out)); have BK401 := Aside0.mk (hbox); have GW401 := Aside0.mk ((by rw [hg]; exact (below_size q0_) : w.heap.size ≤ gb401)); have GE401 := GW401; replace HB := Aside0.mk (below_step q0_ hb); clear q0_; clear hb hbox hg) | ((with_reducible refine gate_dst (N := 3) rfl ?_); refine box_event ?hg (N := 3) ?hd (cs := #[.int .i64 a1_0, .int .i64 a1_1]) (t := 43) ?hr ?_; (case hd => rfl); (case hg => rfl); (case hr => first | (go_simp; done) | (go_simp; rfl)); intro gb402 hg w6 hbox hb; have q0_ := blk_of hb (g := gb401) (o := .cells #[.int .i64 a0_0, .int .i64 a0_1] 60 (0, 0)) (by (with_reducible repeat (first | refine blk_drewN ?_ _ | refine blk_drew ?_ | refine blk_alloc ?_ _)); exact BK401.out); have q1_ := below_of hb (by repeat (first | (with_reducible first | exact HB.out | apply below_alloc | apply pw_below_drewN | apply below_drew1 | refine below_set ?_ GE401.out) | exact HB.out)); have BK402 := Aside0.mk (hbox); have GW402 := Aside0.mk ((by rw [hg]; exact (below_size q1_) : w.heap.size ≤ gb402)); have GE402 := GW402; replace HB := Aside0.mk (below_step q1_ hb); have NB401_402 := Aside0.mk ((by rw [hg]; exact Nat.ne_of_lt (blk_lt q0_) : gb401 ≠ gb402)); have NB402_401 := Aside0.mk NB401_402.out.symm; replace BK401 := Aside0.mk (blk_below q0_ hb); clear q0_ q1_; clear hb hbox hg; have hnb7 := NB401_402.out; have hnc7 := NB402_401.out; obtain ⟨hcz8_0, hcz8_1⟩ := cells_2 BK401.out; obtain ⟨hfz8_0, hfz8_1⟩ := frozen_2 BK401.out; obtain ⟨hcz9_0, hcz9_1⟩ := cells_2 BK402.out; obtain ⟨hfz9_0, hfz9_1⟩ := frozen_2 BK402.out) | ((with_reducible refine gate_callee (f := 48) rfl ?_); refine goesL_ (some 10) rfl rfl Try.func48 (by kernel_rfl) rfl #[.int .i64 a0_0, .int .i64 a1_1] rfl (by (try simp only [List.map_toArray, List.map_cons, List.map_nil]); first | done | rfl | (simp only [List.length_drop, List.length_take]; rfl)) ?_; (with_reducible refine (ring_Signed.calls a0_0 a1_1 t403 _ A3.out).mono ?_); rintro e w' ⟨rfl, ⟨nd, rfl⟩⟩; refine ⟨_, rfl, ?_⟩))
  go_ret
  exact ⟨by first | rfl | (simp [errW_none, errW_some] <;> rfl) | (simp [*, errW_none, errW_some] <;> rfl), by repeat (first | (with_reducible first | exact HB.out | apply below_alloc | apply pw_below_drewN | apply below_drew1 | refine below_set ?_ GE401.out | refine below_set ?_ GE402.out) | exact HB.out)⟩
 ·rw [if_neg c4] at H
  have c4b0 : decide (0 ≤ t403) = false := decide_eq_false c4
  clear c4
  obtain rfl := Option.some.inj H
  go_enter Try.func43, Try.ntmps43
  go_wp2_with (first | ((with_reducible refine gate_dst (N := 2) rfl ?_); refine box_event ?hg (N := 2) ?hd (cs := #[.int .i64 a0_0, .int .i64 a0_1]) (t := 60) ?hr ?_; (case hd => rfl); (case hg => rfl); (case hr => first | (go_simp; done) | (go_simp; rfl)); intro gb401 hg w10 hbox hb; have q0_ := below_of hb (by repeat (first | (with_reducible first | exact HB.out | apply below_alloc | apply pw_below_drewN | apply below_drew1) | exact HB.out)); have BK401 := Aside0.mk (hbox); have GW401 := Aside0.mk ((by rw [hg]; exact (below_size q0_) : w.heap.size ≤ gb401)); have GE401 := GW401; replace HB := Aside0.mk (below_step q0_ hb); clear q0_; clear hb hbox hg) | ((with_reducible refine gate_dst (N := 3) rfl ?_); refine box_event ?hg (N := 3) ?hd (cs := #[.int .i64 a1_0, .int .i64 a1_1]) (t := 43) ?hr ?_; (case hd => rfl); (case hg => rfl); (case hr => first | (go_simp; done) | (go_simp; rfl)); intro gb402 hg w11 hbox hb; have q0_ := blk_of hb (g := gb401) (o := .cells #[.int .i64 a0_0, .int .i64 a0_1] 60 (0, 0)) (by (with_reducible repeat (first | refine blk_drewN ?_ _ | refine blk_drew ?_ | refine blk_alloc ?_ _)); exact BK401.out); have q1_ := below_of hb (by repeat (first | (with_reducible first | exact HB.out | apply below_alloc | apply pw_below_drewN | apply below_drew1 | refine below_set ?_ GE401.out) | exact HB.out)); have BK402 := Aside0.mk (hbox); have GW402 := Aside0.mk ((by rw [hg]; exact (below_size q1_) : w.heap.size ≤ gb402)); have GE402 := GW402; replace HB := Aside0.mk (below_step q1_ hb); have NB401_402 := Aside0.mk ((by rw [hg]; exact Nat.ne_of_lt (blk_lt q0_) : gb401 ≠ gb402)); have NB402_401 := Aside0.mk NB401_402.out.symm; replace BK401 := Aside0.mk (blk_below q0_ hb); clear q0_ q1_; clear hb hbox hg; have hnb12 := NB401_402.out; have hnc12 := NB402_401.out; obtain ⟨hcz13_0, hcz13_1⟩ := cells_2 BK401.out; obtain ⟨hfz13_0, hfz13_1⟩ := frozen_2 BK401.out; obtain ⟨hcz14_0, hcz14_1⟩ := cells_2 BK402.out; obtain ⟨hfz14_0, hfz14_1⟩ := frozen_2 BK402.out) | ((with_reducible refine gate_callee (f := 48) rfl ?_); refine goesL_ (some 10) rfl rfl Try.func48 (by kernel_rfl) rfl #[.int .i64 a0_0, .int .i64 a1_1] rfl (by (try simp only [List.map_toArray, List.map_cons, List.map_nil]); first | done | rfl | (simp only [List.length_drop, List.length_take]; rfl)) ?_; (with_reducible refine (ring_Signed.calls a0_0 a1_1 t403 _ A3.out).mono ?_); rintro e w' ⟨rfl, ⟨nd, rfl⟩⟩; refine ⟨_, rfl, ?_⟩))
  go_ret
  exact ⟨by first | rfl | (simp [errW_none, errW_some] <;> rfl) | (simp [*, errW_none, errW_some] <;> rfl), by repeat (first | (with_reducible first | exact HB.out | apply below_alloc | apply pw_below_drewN | apply below_drew1 | refine below_set ?_ GE401.out | refine below_set ?_ GE402.out) | exact HB.out)⟩
/-- What an iterator over notes asks of a round: whatever lay below N, but for X, lies as it lay. -/
structure LogKept (N : Nat) (X : Nat → Prop) (W W' : World) : Prop where
 size : W.heap.size ≤ W'.heap.size
 same : ∀ k, k < N → ¬ X k → W'.heap[k]? = W.heap[k]?
theorem LogKept.refl (N : Nat) (X : Nat → Prop) (W : World) : LogKept N X W W := ⟨Nat.le_refl _, fun _ _ _ => rfl⟩
theorem LogKept.trans {N : Nat} {X : Nat → Prop} {A B C : World} (h : LogKept N X A B) (k : LogKept N X B C) : LogKept N X A C := ⟨Nat.le_trans h.size k.size, fun i hi hx => (k.same i hi hx).trans (h.same i hi hx)⟩
theorem LogKept.cell {N : Nat} {X : Nat → Prop} {A B : World} (h : LogKept N X A B) {p : Addr} (hb : p.block < N) (hx : ¬ X p.block) : B.cell? p = A.cell? p := by
 unfold World.cell?
 rw [h.same _ hb hx]
theorem LogKept.below {N : Nat} {X : Nat → Prop} {A B : World} (h : Below A.heap.size A B) (hN : N ≤ A.heap.size) : LogKept N X A B := ⟨h.size, fun k hk _ => h.block k (by omega)⟩
theorem LogKept.put {N : Nat} {X : Nat → Prop} (W : World) (l : Nat) (o' : Obj) (h : N ≤ l) : LogKept N X W (W.putObj l o') := by
 refine ⟨?_, fun k hk _ => ?_⟩
 ·simp [World.putObj]
 ·simp only [World.putObj]
  rw [Array.getElem?_setIfInBounds_ne (by omega)]
theorem logKept_from {β : Type} {N B : Nat} {X : Nat → Prop} {w₀ : World} (hN : N ≤ w₀.heap.size) (hB : N ≤ B) : OwnFrom B (fun (_ : β) W => LogKept N X w₀ W) :=
 fun _ W W' row hs hg hr => hs.trans ⟨hg.size, fun k hk _ => hg.block k (by have := hs.size; omega) (fun e => by have := (hr k e.symm).1; omega)⟩
/-- Whether a note is alive. -/
def seesB (now width : Int) (e : S43) : Bool := log_view_sees.f now width e.f0 e.f1 == some true
def seesAll (now width : Int) (l : List S43) : Bool := l.all fun e => (log_view_sees.f now width e.f0 e.f1).isSome
/-- The notes that are alive among the first ones. -/
def aliveL (now width : Int) (l : List S43) (k : Nat) : List S43 := (l.take k).filter (seesB now width)
theorem aliveL_max (now width : Int) (l : List S43) (k : Nat) : (aliveL now width l k).length ≤ l.length := Nat.le_trans (List.length_filter_le _ _) (by rw [List.length_take]; omega)
theorem rd_entry (l : List S43) (k : Nat) (h : k < l.length) : rd_T43 l (k : Int) = l[k] := by
 unfold rd_T43
 simp [List.getD_eq_getElem?_getD, h]
theorem aliveL_succ (now width : Int) (l : List S43) (k : Nat) (h : k < l.length) : aliveL now width l (k + 1) = aliveL now width l k ++ (if seesB now width (rd_T43 l (k : Int)) = true then [rd_T43 l (k : Int)] else []) := by
 unfold aliveL
 rw [rd_entry l k h, List.take_succ_eq_append_getElem h, List.filter_append]
 congr 1
 cases hs : seesB now width l[k] <;> simp [hs]
/-- The same, each with what is known of all notes. -/
def aliveS {P : S43 → Prop} (now width : Int) (l : List S43) (hP : ∀ k : Nat, k < l.length → P (rd_T43 l (k : Int))) : Nat → List { x : S43 // P x }
 | 0 => []
 | k + 1 => if h : k < l.length ∧ seesB now width (rd_T43 l (k : Int)) = true then aliveS now width l hP k ++ [⟨rd_T43 l (k : Int), hP k h.1⟩] else aliveS now width l hP k
theorem aliveS_len {P : S43 → Prop} (now width : Int) (l : List S43) (hP : ∀ k : Nat, k < l.length → P (rd_T43 l (k : Int))) : ∀ k, (aliveS now width l hP k).length ≤ k
 | 0 => Nat.le_refl _
 | k + 1 => by
  have := aliveS_len now width l hP k
  rw [aliveS]
  split
  ·rw [List.length_append]; exact Nat.succ_le_succ this
  ·omega
theorem aliveS_val {P : S43 → Prop} (now width : Int) (l : List S43) (hP : ∀ k : Nat, k < l.length → P (rd_T43 l (k : Int))) : ∀ k, k ≤ l.length → (aliveS now width l hP k).map (·.1) = aliveL now width l k
 | 0, _ => rfl
 | k + 1, h => by
  have ih := aliveS_val now width l hP k (by omega)
  rw [aliveS, aliveL_succ now width l k (by omega)]
  by_cases c : seesB now width (rd_T43 l (k : Int)) = true
  ·rw [dif_pos ⟨by omega, c⟩, if_pos c, List.map_append, ih]; rfl
  ·rw [dif_neg (fun x => c x.2), if_neg c, ih, List.append_nil]
theorem sees_at {now width : Int} {l : List S43} (hs : seesAll now width l = true) (k : Nat) (h : k < l.length) : log_view_sees.f now width (rd_T43 l (k : Int)).f0 (rd_T43 l (k : Int)).f1 = some (seesB now width (rd_T43 l (k : Int))) := by
 rw [rd_entry l k h]
 have := List.all_eq_true.1 hs l[k] (List.getElem_mem h)
 obtain ⟨b, hb⟩ := Option.isSome_iff_exists.1 this
 unfold seesB
 rw [hb]
 cases b <;> rfl
section
attribute [local go_sem] Oper.semAt_some
set_option maxRecDepth 100000 in
set_option maxHeartbeats 8000000 in
theorem log_of1.stops {P : S43 → Prop} (n : Nat) (hn : 1 ≤ n) (l : List S43) (now width : Int) (hs : seesAll now width l = true) (hP : ∀ k : Nat, k < l.length → P (rd_T43 l (k : Int))) (A : Option Addr) (c N : Nat) (X : Nat → Prop) (w : World) (hl : l.length ≤ c) (hmax : (l.length : Int) ≤ 9223372036854775807) (B1 B2 : Nat)
  (h1 : B1 < N) (hx1 : ¬ X B1) (h2 : B2 < w.heap.size) (hN : N ≤ w.heap.size)
  (g1 : w.cell? ⟨B1, 0, none⟩ = some (.int .i64 now)) (g1' : w.cell? ⟨B1, 1, none⟩ = some (.int .i64 width)) (g2 : w.cell? ⟨B2, 0, none⟩ = some (.slice A l.length c))
  (hT : ∀ j : Nat, j < l.length → ∃ ad : Addr, A = some ad ∧ (ad.add (j * 2)).block < N ∧ ¬ X (ad.add (j * 2)).block ∧ w.cell? (ad.add (j * 2)) = some (.int .i64 (rd_T43 l (j : Int)).f0) ∧ w.cell? ⟨(ad.add (j * 2)).block, (ad.add (j * 2)).off + 1, none⟩ = some (.int .i64 (rd_T43 l (j : Int)).f1)) :
  SeqStopsK Fence.wide n Try.prog 42 #[.pointer (some ⟨B2, 0, none⟩), .pointer (some ⟨B1, 0, none⟩)] (fun x : { x : S43 // P x } => #[Value.agg #[.int .i64 x.1.f0, .int .i64 x.1.f1]]) (LogKept N X) (fun ys => ys = aliveS now width l hP l.length) (fun pre => ∃ k, k ≤ l.length ∧ pre = aliveS now width l hP k) l.length w := fun lp J Jx W hW hA _ hY h0 => by
 have g1W := (hW.cell (p := ⟨B1, 0, none⟩) (by show B1 < w.heap.size; omega)).trans g1
 have g1W' := (hW.cell (p := ⟨B1, 1, none⟩) (by show B1 < w.heap.size; omega)).trans g1'
 have g2W := (hW.cell (p := ⟨B2, 0, none⟩) h2).trans g2
 have hNW : N ≤ W.heap.size := Nat.le_trans hN hW.size
 have hTW : ∀ j : Nat, j < l.length → ∃ ad : Addr, A = some ad ∧ (ad.add (j * 2)).block < N ∧ ¬ X (ad.add (j * 2)).block ∧ W.cell? (ad.add (j * 2)) = some (.int .i64 (rd_T43 l (j : Int)).f0) ∧ W.cell? ⟨(ad.add (j * 2)).block, (ad.add (j * 2)).off + 1, none⟩ = some (.int .i64 (rd_T43 l (j : Int)).f1) := fun j hj => by
  obtain ⟨ad, e, hb, hx, hc, hc'⟩ := hT j hj
  exact ⟨ad, e, hb, hx, (hW.cell (p := ad.add (j * 2)) (by omega)).trans hc, (hW.cell (p := ⟨(ad.add (j * 2)).block, (ad.add (j * 2)).off + 1, none⟩) (by show (ad.add (j * 2)).block < w.heap.size; omega)).trans hc'⟩
 refine callsIn_of_wp Try.func42 rfl trivial ?_ rfl
 simp only [Try.ntmps42, List.size_toArray, List.length_cons, List.length_nil, Nat.reduceAdd, Nat.reduceSub, Array.replicate_succ, Array.replicate_zero, List.push_toArray, List.append_toArray, List.nil_append, List.cons_append]
 gi_wp2
 gi_loopw [8] (fun i wr => ∃ k : Nat, k ≤ l.length ∧ i = .int .i64 k ∧ J (aliveS now width l hP k) wr ∧ LogKept N X W wr)
  (fun i _ => l.length - (intOf i).toNat)
 case atStart => exact ⟨0, Nat.zero_le _, rfl, h0, LogKept.refl _ _ _⟩
 case round =>
  obtain ⟨k, hk, rfl, hJs, hnx⟩ := hrel
  by_cases hlt : k < l.length
  ·obtain ⟨ad, rfl, hb, hx, hc, hc'⟩ := hTW k hlt
   have hcx := (hnx.cell hb hx).trans hc
   have hcx' := (hnx.cell (p := ⟨(ad.add (k * 2)).block, (ad.add (k * 2)).off + 1, none⟩) hb hx).trans hc'
   have g1x := (hnx.cell (p := ⟨B1, 0, none⟩) h1 hx1).trans g1W
   have g1x' := (hnx.cell (p := ⟨B1, 1, none⟩) h1 hx1).trans g1W'
   have hsz := hnx.size
   have hS := sees_at hs k hlt
   clear hTW hT hc hc' g1 g1' g2
   have a1 : ∀ o, (wr.alloc o).cell? ⟨B1, 0, none⟩ = some (.int .i64 now) := fun o => (((Below.refl wr.heap.size wr).alloc (Nat.le_refl _) o).cell (p := ⟨B1, 0, none⟩) (by show B1 < wr.heap.size; omega)).trans g1x
   have a1' : ∀ o, (wr.alloc o).cell? ⟨B1, 1, none⟩ = some (.int .i64 width) := fun o => (((Below.refl wr.heap.size wr).alloc (Nat.le_refl _) o).cell (p := ⟨B1, 1, none⟩) (by show B1 < wr.heap.size; omega)).trans g1x'
   gi_wp2_with fail
   refine ⟨trivial, callsIn_wide.2 ((log_view_sees.calls now width _ _ _ _ hS).mono ?_)⟩
   rintro e W2 ⟨rfl, hb2⟩
   have hbA := (Below.refl wr.heap.size wr).alloc (Nat.le_refl _) (Obj.cells #[Value.int .i64 (rd_T43 l (k : Int)).f0, Value.int .i64 (rd_T43 l (k : Int)).f1] 43)
   have hbW := below_step hbA hb2
   have hbn := blk_below (blk_new wr (Obj.cells #[Value.int .i64 (rd_T43 l (k : Int)).f0, Value.int .i64 (rd_T43 l (k : Int)).f1] 43)) hb2
   have hJ2 : J (aliveS now width l hP k) W2 := hA _ wr W2 none hJs ⟨hbW.os, hbW.tape, hbW.output, hbW.size, fun q hq _ => hbW.block q hq⟩ (fun r h => by cases h)
   have hk2 := hnx.trans (LogKept.below hbW (by omega))
   have hsz2 := hk2.size
   have e0 : W2.cell? ⟨wr.heap.size, 0, none⟩ = some (.int .i64 (rd_T43 l (k : Int)).f0) := (blk_cell hbn 0).trans rfl
   have e1 : W2.cell? ⟨wr.heap.size, 1, none⟩ = some (.int .i64 (rd_T43 l (k : Int)).f1) := (blk_cell hbn 1).trans rfl
   clear hA a1 a1' hbA hbW hbn hcx hcx' g1x g1x' hb2
   cases hq : seesB now width (rd_T43 l (k : Int)) with
   | true =>
    have hsu : aliveS now width l hP (k + 1) = aliveS now width l hP k ++ [⟨rd_T43 l (k : Int), hP k hlt⟩] := by rw [aliveS, dif_pos ⟨hlt, hq⟩]
    obtain ⟨fn, tmps, assign, body, hy, hR⟩ := hY (aliveS now width l hP k) ⟨rd_T43 l (k : Int), hP k hlt⟩ W2 hJ2 (by have := aliveS_len now width l hP k; show _ < l.length; omega)
    clear hY
    dsimp only at hy
    gi_wp2
    refine hR.mono ?_
    rintro e W3 (⟨rfl, hJ3, hk3⟩ | ⟨rfl, hJx3⟩)
    ·gi_wp2
     go_roundw
     case rel => exact ⟨k + 1, by omega, by simp, by rw [hsu]; exact hJ3, hk2.trans hk3⟩
     case measure => simp [intOf]; omega
    ·gi_wp2
     refine bodyPost_ret (results_none rfl _ _ _) rfl ?_
     exact ⟨⟨_, rfl⟩, .inr ⟨_, ⟨k + 1, by omega, hsu.symm⟩, hJx3⟩⟩
   | false =>
    have hsu : aliveS now width l hP (k + 1) = aliveS now width l hP k := by rw [aliveS, dif_neg (fun x => by rw [hq] at x; exact absurd x.2 (by decide))]
    clear hY
    gi_wp2
    refine ⟨fun _ h => (by cases h), ?_⟩
    gi_wp2
    go_roundw
    case rel => exact ⟨k + 1, by omega, by simp, by rw [hsu]; exact hJ2, hk2⟩
    case measure => simp [intOf]; omega
  ·obtain rfl : k = l.length := by omega
   clear hTW hT
   gi_wp2
   go_end0
   exact ⟨⟨_, rfl⟩, .inl ⟨_, rfl, hJs⟩⟩
set_option maxHeartbeats 1000000 in
theorem log_of.calls (now width : Int) (A : Option Addr) (n c : Nat) (w : World) :
  Calls Try.prog 36 #[.agg #[.int .i64 now, .int .i64 width], .slice A n c] w fun e w' => e = .returned (.func (.func 42) #[] #[.pointer (some ⟨w.heap.size + 1, 0, none⟩), .pointer (some ⟨w.heap.size, 0, none⟩)]) ∧ w' = (w.alloc (.cells #[.int .i64 now, .int .i64 width] 60)).alloc (.cells #[.slice A n c] 22) := by
 go_enter Try.func36, Try.ntmps36
 go_wp2
 go_ret
 exact ⟨rfl, rfl⟩
end
theorem log_lower {W : World} {N b : Nat} {e : TypeId} {size n : Nat} {v : Value} {xs : List Value} (h : W.ownsRow N e size v n xs) (hb : b ≤ N) : W.ownsRow b e size v n xs :=
 ⟨h.1, h.2.imp id (fun ⟨g, cap, cur, e, hg, r⟩ => ⟨g, cap, cur, e, Nat.le_trans hb hg, r⟩)⟩
theorem logKept_appended {W w1 : World} {N B : Nat} {e : TypeId} {size n : Nat} {v v' : Value} {xs : List Value} {tmp : Obj} (hrow : W.ownsRow N e size v n xs) (hN : N ≤ W.heap.size) (hgrow : (W.alloc tmp).grownBy w1 v.ownBlock) : LogKept N (fun b => b = B) W (w1.setCell ⟨B, 0, none⟩ v') := by
 refine ⟨?_, fun q hq hx => ?_⟩
 ·have h1 := hgrow.size
  have h2 := (grownBy_setCell' w1 B v').size
  rw [World.size_alloc] at h1
  omega
 ·refine (Below.heap_setCell w1 ⟨B, 0, none⟩ v' q hx).trans ((hgrow.block q (by rw [World.size_alloc]; omega) ?_).trans (Below.heap_alloc W tmp q (by omega)))
  rcases hrow.2 with ⟨rfl, _⟩ | ⟨g, cap, cur, rfl, hb, _⟩
  ·simp [Value.ownBlock]
  ·intro e'
   have : q = g := by simpa [Value.ownBlock] using e'
   omega
/-- Notes as cells, one behind another. -/
def entL (l : List S43) : List Value := l.flatMap fun e => [.int .i64 e.f0, .int .i64 e.f1]
theorem entL_snoc (l : List S43) (e : S43) : entL (l ++ [e]) = entL l ++ [.int .i64 e.f0, .int .i64 e.f1] := by
 unfold entL
 rw [List.flatMap_append]
 simp
theorem entL_reps (l : List S43) (W : World) (b : Nat) (ok : Nat → Prop) : ∀ pre : List S43, Reps (k43.M W b ok) k43.sz pre (entL pre) := by
 intro pre
 have key : ∀ n, n ≤ pre.length → Reps (k43.M W b ok) k43.sz (pre.take n) (entL (pre.take n)) := by
  intro n
  induction n with
  | zero => intro _; exact Reps.none _ _
  | succ n ih =>
   intro hn
   rw [List.take_succ_eq_append_getElem (by omega), entL_snoc]
   exact (ih (by omega)).snoc (k43_mkM W b ok _) rfl
 have := key pre.length (Nat.le_refl _)
 rwa [List.take_length] at this
theorem entBox_own {β : Type} {N B : Nat} (Bx : Nat) (t : TypeId) (cs : Array Value) : OwnFrom B (fun (_ : β) W => W.heap[Bx]? = some (.cells cs t (0, 0))) :=
 fun _ W W' row hs hg hr => (hg.block Bx (Array.getElem?_eq_some_iff.1 hs).1 (fun e => by
  obtain ⟨_, o, ho, hc⟩ := hr Bx e.symm
  rw [hs] at ho
  cases ho
  cases hc)).trans hs
def log_Purge.f (l0 : List S43) (a1 a2 : Int) : Option (List S43) := if seesAll a1 a2 l0 = true ∧ l0.length < 8796093022208 then some (aliveL a1 a2 l0 l0.length) else none
section
attribute [local go_sem] Oper.semAt_some
set_option maxRecDepth 100000 in
set_option maxHeartbeats 16000000 in
theorem log_Purge.calls (A0 : Option Addr) (c0 : Nat) (l0 : List S43) (a1 a2 : Int) (r : List S43) (w : World) (hr0 : Kd.C k43 w A0 l0.length l0) (hc0 : l0.length ≤ c0) (h : log_Purge.f l0 a1 a2 = some r) :
  Calls Try.prog 25 #[.slice A0 l0.length c0, .int .i64 a1, .int .i64 a2] w fun e w' => ∃ v0_ : Value, e = .returned (v0_) ∧ Kd.R k43 43 w' w.heap.size (fun _ => True) v0_ r ∧ Below w.heap.size w w' := by
 unfold log_Purge.f at h
 by_cases hs : seesAll a1 a2 l0 = true ∧ l0.length < 8796093022208
 ·rw [if_pos hs] at h
  obtain rfl := Option.some.inj h
  obtain ⟨hs, hlen⟩ := hs
  have hmax := Kd.C_max hr0
  refine (callsIn_wide (n := 9)).1 ?_
  refine callsIn_of_wp_marks Try.func25 rfl trivial ?_ rfl
  simp only [Try.ntmps25, List.size_toArray, List.length_cons, List.length_nil, Nat.reduceAdd, Nat.reduceSub, Array.replicate_succ, Array.replicate_zero, List.push_toArray, List.append_toArray, List.nil_append, List.cons_append]
  gi_wp2_with fail
  refine ⟨trivial, callsIn_wide.2 ((log_of.calls a1 a2 A0 l0.length c0 _).mono ?_)⟩
  rintro e w3 ⟨rfl, rfl⟩
  gi_wp2_with fail
  have bO : Boxed (((w.alloc (Obj.cells #[Value.slice none 0 0] 22)).alloc (Obj.cells #[Value.int .i64 a1, Value.int .i64 a2] 60)).alloc (Obj.cells #[Value.slice A0 l0.length c0] 22)) w.heap.size 22 (.slice none 0 0) := ((Boxed.new w 22 (.slice none 0 0)).alloc _).alloc _
  have bV := blk_alloc (blk_new (w.alloc (Obj.cells #[Value.slice none 0 0] 22)) (Obj.cells #[Value.int .i64 a1, Value.int .i64 a2] 60)) (Obj.cells #[Value.slice A0 l0.length c0] 22)
  have bL := blk_new ((w.alloc (Obj.cells #[Value.slice none 0 0] 22)).alloc (Obj.cells #[Value.int .i64 a1, Value.int .i64 a2] 60)) (Obj.cells #[Value.slice A0 l0.length c0] 22)
  have hsz : (((w.alloc (Obj.cells #[Value.slice none 0 0] 22)).alloc (Obj.cells #[Value.int .i64 a1, Value.int .i64 a2] 60)).alloc (Obj.cells #[Value.slice A0 l0.length c0] 22)).heap.size = w.heap.size + 1 + 1 + 1 := by simp only [World.size_alloc]
  have hB3 := below_alloc (below_alloc (below_alloc (Below.refl _ w) (Obj.cells #[Value.slice none 0 0] 22)) (Obj.cells #[Value.int .i64 a1, Value.int .i64 a2] 60)) (Obj.cells #[Value.slice A0 l0.length c0] 22)
  simp only [World.size_alloc] at bV bL
  generalize ((w.alloc (Obj.cells #[Value.slice none 0 0] 22)).alloc (Obj.cells #[Value.int .i64 a1, Value.int .i64 a2] 60)).alloc (Obj.cells #[Value.slice A0 l0.length c0] 22) = w3 at bO bV bL hsz hB3 ⊢
  obtain ⟨i0, hi, hz0, hz1, hz2⟩ := info_parts info43
  refine wpIn_rangeFunc_ownH (w := w3) rfl (by omega) (gf := 42) (lb := #[.pointer (some ⟨w.heap.size + 1 + 1, 0, none⟩), .pointer (some ⟨w.heap.size + 1, 0, none⟩)]) rfl trivial (enters_of Try.func42 (by kernel_rfl) rfl)
   (log_of1.stops (P := fun _ => True) 8 (by omega) l0 a1 a2 hs (fun _ _ => trivial) A0 c0 (w.heap.size + 1 + 1 + 1) (fun b => b = w.heap.size) w3 hc0 (by omega) (w.heap.size + 1) (w.heap.size + 1 + 1) (by omega) (by omega) (by omega) (by omega) ((blk_cell bV 0).trans rfl) ((blk_cell bV 1).trans rfl) ((blk_cell bL 0).trans rfl)
    (fun j hj => by
     obtain ⟨ad, e, x0, x1⟩ := at_T43 hr0 (j : Int) (by omega) (by omega)
     rw [Int.toNat_natCast] at x0 x1
     have hlt : (ad.add (j * 2)).block < w.heap.size := World.block_lt_of_cell? _ _ x0
     exact ⟨ad, e, by omega, by omega, (hB3.cell (p := ad.add (j * 2)) hlt).trans x0, (hB3.cell (p := ⟨(ad.add (j * 2)).block, (ad.add (j * 2)).off + 1, none⟩) hlt).trans x1⟩)) LogKept.trans (fun W l o o' hl _ _ _ => LogKept.put W l o' (by omega)) (Below.refl _ _) (fun _ => rfl)
   (fun pre W => (∃ v, Boxed W w.heap.size 22 v ∧ W.ownsRow (w.heap.size + 1 + 1 + 1) 43 2 v pre.length (entL (pre.map (·.1))) ∧ True) ∧ (LogKept (w.heap.size + 1 + 1 + 1) (fun b => b = w.heap.size) w3 W ∧ Below w.heap.size w W))
   (fun _ _ _ => False)
   (OwnFrom.and (Own.from (holdsRow_own (w.heap.size + 1 + 1 + 1) w.heap.size 22 43 2 (fun pre : List { x : S43 // (fun _ : S43 => True) x } => pre.length) (fun pre => entL (pre.map (·.1))) (fun _ _ => True)) _) (OwnFrom.and (logKept_from (by omega) (by omega)) (ownFrom_below (Nat.le_refl _) (by omega))))
   (fun _ _ _ _ _ hs _ _ => hs)
   ⟨⟨_, bO, World.ownsRow_nil _ _ _ _, trivial⟩, LogKept.refl _ _ _, hB3⟩
   (fun x a' W => ∃ Bx, w.heap.size + 1 + 1 + 1 ≤ Bx ∧ W.heap[Bx]? = some (.cells #[.int .i64 x.1.f0, .int .i64 x.1.f1] 43 (0, 0)) ∧ a' = { tmps := #[.slice A0 l0.length c0, .int .i64 a1, .int .i64 a2, undef, undef, undef, .slice none 0 0, .pointer (some ⟨w.heap.size, 0, none⟩), .pointer (some ⟨Bx, 0, none⟩), .int .i64 a1, .int .i64 a2, .agg #[.int .i64 a1, .int .i64 a2], .slice A0 l0.length c0, .func (.func 42) #[] #[.pointer (some ⟨w.heap.size + 1 + 1, 0, none⟩), .pointer (some ⟨w.heap.size + 1, 0, none⟩)], .agg #[.int .i64 x.1.f0, .int .i64 x.1.f1], undef, undef, undef, undef, undef], defers := [] })
   (fun x a' _ X Y row hs hg hr => by obtain ⟨Bx, e1, e2, e3⟩ := hs; exact ⟨Bx, e1, entBox_own (N := 0) Bx _ _ () X Y row e2 hg hr, e3⟩)
   ?assign ?body ?done ?stop
  case assign =>
   rintro l pre x W K ⟨⟨v, bv, hrow, _⟩, hk, hB⟩ hK
   have hsk := hk.size
   have hbl := (Below.refl W.heap.size W).alloc (Nat.le_refl _) (Obj.cells #[Value.int .i64 x.1.f0, Value.int .i64 x.1.f1] 43)
   gi_wp2
   exact hK _ _ ((KeepsOthers.alloc _ _).from _) (LogKept.below hbl (by omega)) ⟨⟨v, bv.alloc _, hrow.alloc _, trivial⟩, hk.trans (LogKept.below hbl (by omega)), below_alloc hB _⟩ ⟨W.heap.size, by omega, blk_new _ _, rfl⟩
  case body =>
   rintro l pre x a' W hl ⟨rr, hrr⟩ ⟨⟨v, hv, hrow, _⟩, hk, hB⟩ ⟨Bx, hBx, bX, rfl⟩ hlt
   have hc := hv.cell
   have e0 : W.cell? ⟨Bx, 0, none⟩ = some (.int .i64 x.1.f0) := (blk_cell bX 0).trans rfl
   have e1 : W.cell? ⟨Bx, 1, none⟩ = some (.int .i64 x.1.f1) := (blk_cell bX 1).trans rfl
   have hsk := hk.size
   have hnew : ∀ j u, [Value.int .i64 x.1.f0, Value.int .i64 x.1.f1][j]? = some u → (W.alloc (.cells #[.int .i64 x.1.f0, .int .i64 x.1.f1] 43)).cell? ((⟨W.heap.size, 0, none⟩ : Addr).add j) = some u := fun j u hu => by
    have hb := blk_new W (.cells #[.int .i64 x.1.f0, .int .i64 x.1.f1] 43)
    match j, hu with
    | 0, hu => cases hu; exact (blk_cell hb 0).trans rfl
    | 1, hu => cases hu; exact (blk_cell hb 1).trans rfl
   gi_wp2_with (gi_at_builtin; refine wpListIn_append_own _ rfl _ _ 22 rfl (w.heap.size + 1 + 1 + 1) 43 i0 (.agg #[.int .i64 0, .int .i64 0]) 2 16 Try.underlying22 hi hz0 hz1 hz2 rfl (by decide) _ _ _ rfl (hrow.alloc _) ⟨W.heap.size, 0, none⟩ 1 1 [.int .i64 x.1.f0, .int .i64 x.1.f1] rfl rfl hnew (by simp [Value.oneCell']) (by simp only [maxLen]; omega) (by omega) (by rw [World.size_alloc]; omega) ?_; intro v' w1 hown' hgrow _; obtain ⟨g', cap', rfl⟩ := ownsRow_succ hown'; obtain ⟨hv1, hv2, _, hk2, hb2⟩ := hv.appended (by decide) (log_lower hrow (by omega)) hB.size (Nat.le_refl _) (log_lower hown' (by omega)) hgrow; have hc1 := hv1.cell; have hf1 := hv1.frozen)
   have hkA := logKept_appended (v' := .slice (some ⟨g', 0, none⟩) (pre.length + 1) cap') (B := w.heap.size) hrow (by omega) hgrow
   have hown2 := hown'.kept (grownBy_setCell' w1 w.heap.size (.slice (some ⟨g', 0, none⟩) (pre.length + 1) cap')) (.inr (hv1.not_row (by decide) hown').symm)
   exact ⟨hk2.from _, hkA, ⟨⟨_, hv2, by rw [List.map_append, List.map_singleton, entL_snoc, List.length_append]; exact hown2, trivial⟩, hk.trans hkA, hB.trans hb2⟩⟩
  case done =>
   rintro D ys W hD rfl ⟨⟨v, hv, hrow, _⟩, hk, hB⟩ hK
   have hc := hv.cell
   rw [aliveS_val _ _ _ _ _ (Nat.le_refl _), ← List.length_map (f := (·.1)), aliveS_val _ _ _ _ _ (Nat.le_refl _)] at hrow
   gi_wp2
   refine ⟨by simp, .inl ⟨_, _, rfl, run_takeDeferred hK, ?_⟩⟩
   exact ⟨_, results_tmp rfl _ _ _, v, rfl, ⟨fun _ _ => trivial, _, log_lower (ownsRow_putObj hrow _ hK rfl) (by omega), entL_reps l0 _ _ _ _⟩, hB.trans (belowK_b (w := w) (Nat.le_refl _) W D _ _ (by omega) hK rfl rfl)⟩
  case stop =>
   rintro D c pre W _ _ h _
   exact h.elim
 ·rw [if_neg hs] at h
  cases h
end
/-- The number that a map holds at a key (0 where it holds none), and one more there. -/
def numD : DataW Unit → Int
 | .lit (.int _ c) => c
 | _ => 0
def bumpD (D : DataW Unit) (x : Int) : DataW Unit := D.put (.int .i64 x) (.lit (.int .i64 (wrap64 (numD (D.atKey (.int .i64 x) (.lit (.int .i64 0))) + 1))))
def tallyD (xs : List Int) : DataW Unit := xs.foldl bumpD (.map [])
theorem tallyD_snoc (pre : List Int) (x : Int) : tallyD (pre ++ [x]) = bumpD (tallyD pre) x := by simp [tallyD]
/-- Whether all notes are of nodes that a machine number tells. -/
def wfAll (l : List S43) : Bool := l.all fun e => (Lit.int .i64 e.f0).wf
theorem wfAll_at {l : List S43} (h : wfAll l = true) (k : Nat) (hk : k < l.length) : (Lit.int .i64 (rd_T43 l (k : Int)).f0).wf = true := by
 rw [rd_entry l k hk]
 exact List.all_eq_true.1 h l[k] (List.getElem_mem hk)
section
attribute [local go_sem] Oper.semAt_some
set_option maxRecDepth 100000 in
set_option maxHeartbeats 16000000 in
theorem log_nodes.calls (A0 : Option Addr) (c0 : Nat) (l0 : List S43) (a1 a2 : Int) (w : World) (hr0 : Kd.C k43 w A0 l0.length l0) (hc0 : l0.length ≤ c0) (hs : seesAll a1 a2 l0 = true) (hw : wfAll l0 = true) (hlen : l0.length < 8796093022208) :
  Calls Try.prog 37 #[.slice A0 l0.length c0, .int .i64 a1, .int .i64 a2] w fun e w' => e = .returned (.map (some w.heap.size)) ∧ w'.ownsMap Try.prog 3 (plainElem (H := Unit) Try.prog 3) w.heap.size l0.length (tallyD ((aliveL a1 a2 l0 l0.length).map (·.f0))) ∧ Below w.heap.size w w' := by
 have hmax := Kd.C_max hr0
 have hmm := @run_makeMap Try.prog
 refine (callsIn_wide (n := 9)).1 ?_
 refine callsIn_of_wp_marks Try.func37 rfl trivial ?_ rfl
 simp only [Try.ntmps37, List.size_toArray, List.length_cons, List.length_nil, Nat.reduceAdd, Nat.reduceSub, Array.replicate_succ, Array.replicate_zero, List.push_toArray, List.append_toArray, List.nil_append, List.cons_append]
 gi_wp2_with fail
 refine ⟨trivial, callsIn_wide.2 ((log_of.calls a1 a2 A0 l0.length c0 _).mono ?_)⟩
 rintro e w4 ⟨rfl, rfl⟩
 gi_wp2_with fail
 have hm0 := ((((World.ownsMap_made w Try.prog 3 (plainElem (H := Unit) Try.prog 3)).alloc (Obj.cells #[Value.map (some w.heap.size)] 62)).alloc (Obj.cells #[Value.int .i64 a1, Value.int .i64 a2] 60)).alloc (Obj.cells #[Value.slice A0 l0.length c0] 22))
 have bO := ((Boxed.new (w.alloc (.map #[] 0)) 62 (.map (some w.heap.size))).alloc (Obj.cells #[Value.int .i64 a1, Value.int .i64 a2] 60)).alloc (Obj.cells #[Value.slice A0 l0.length c0] 22)
 have bV := blk_alloc (blk_new ((w.alloc (.map #[] 0)).alloc (Obj.cells #[Value.map (some w.heap.size)] 62)) (Obj.cells #[Value.int .i64 a1, Value.int .i64 a2] 60)) (Obj.cells #[Value.slice A0 l0.length c0] 22)
 have bL := blk_new (((w.alloc (.map #[] 0)).alloc (Obj.cells #[Value.map (some w.heap.size)] 62)).alloc (Obj.cells #[Value.int .i64 a1, Value.int .i64 a2] 60)) (Obj.cells #[Value.slice A0 l0.length c0] 22)
 have hsz : ((((w.alloc (.map #[] 0)).alloc (Obj.cells #[Value.map (some w.heap.size)] 62)).alloc (Obj.cells #[Value.int .i64 a1, Value.int .i64 a2] 60)).alloc (Obj.cells #[Value.slice A0 l0.length c0] 22)).heap.size = w.heap.size + 1 + 1 + 1 + 1 := by simp only [World.size_alloc]
 have hB3 := below_alloc (below_alloc (below_alloc (below_alloc (Below.refl _ w) (.map #[] 0)) (Obj.cells #[Value.map (some w.heap.size)] 62)) (Obj.cells #[Value.int .i64 a1, Value.int .i64 a2] 60)) (Obj.cells #[Value.slice A0 l0.length c0] 22)
 simp only [World.size_alloc] at bO bV bL
 generalize (((w.alloc (.map #[] 0)).alloc (Obj.cells #[Value.map (some w.heap.size)] 62)).alloc (Obj.cells #[Value.int .i64 a1, Value.int .i64 a2] 60)).alloc (Obj.cells #[Value.slice A0 l0.length c0] 22) = w3 at hm0 bO bV bL hsz hB3 ⊢
 refine wpIn_rangeFunc_ownH (w := w3) rfl (by omega) (gf := 42) (lb := #[.pointer (some ⟨w.heap.size + 1 + 1 + 1, 0, none⟩), .pointer (some ⟨w.heap.size + 1 + 1, 0, none⟩)]) rfl trivial (enters_of Try.func42 (by kernel_rfl) rfl)
  (log_of1.stops (P := fun e => (Lit.int .i64 e.f0).wf = true) 8 (by omega) l0 a1 a2 hs (wfAll_at hw) A0 c0 (w.heap.size + 1 + 1 + 1 + 1) (fun b => b = w.heap.size) w3 hc0 (by omega) (w.heap.size + 1 + 1) (w.heap.size + 1 + 1 + 1) (by omega) (by omega) (by omega) (by omega) ((blk_cell bV 0).trans rfl) ((blk_cell bV 1).trans rfl) ((blk_cell bL 0).trans rfl)
   (fun j hj => by
    obtain ⟨ad, e, x0, x1⟩ := at_T43 hr0 (j : Int) (by omega) (by omega)
    rw [Int.toNat_natCast] at x0 x1
    have hlt : (ad.add (j * 2)).block < w.heap.size := World.block_lt_of_cell? _ _ x0
    exact ⟨ad, e, by omega, by omega, (hB3.cell (p := ad.add (j * 2)) hlt).trans x0, (hB3.cell (p := ⟨(ad.add (j * 2)).block, (ad.add (j * 2)).off + 1, none⟩) hlt).trans x1⟩)) LogKept.trans (fun W l o o' hl _ _ _ => LogKept.put W l o' (by omega)) (Below.refl _ _) (fun _ => rfl)
  (fun pre W => (W.cell? ⟨w.heap.size + 1, 0, none⟩ = some (.map (some w.heap.size)) ∧ W.ownsMap Try.prog 3 (plainElem (H := Unit) Try.prog 3) w.heap.size pre.length (tallyD (pre.map (·.1.f0)))) ∧ (LogKept (w.heap.size + 1 + 1 + 1 + 1) (fun b => b = w.heap.size) w3 W ∧ Below w.heap.size w W))
  (fun _ _ _ => False)
  (OwnFrom.and (fun s A B row hs hg hr => ⟨cell_kept hs.1 hg (fun r e => (hr r e).2), hs.2.kept hg (fun e => by have := (hr _ e.symm).1; omega)⟩) (OwnFrom.and (logKept_from (by omega) (by omega)) (ownFrom_below (Nat.le_refl _) (by omega))))
  (fun _ _ _ _ _ hs _ _ => hs)
  ⟨⟨bO.cell, hm0⟩, LogKept.refl _ _ _, hB3⟩
  (fun x a' W => ∃ Bx, w.heap.size + 1 + 1 + 1 + 1 ≤ Bx ∧ W.heap[Bx]? = some (.cells #[.int .i64 x.1.f0, .int .i64 x.1.f1] 43 (0, 0)) ∧ a' = { tmps := #[.slice A0 l0.length c0, .int .i64 a1, .int .i64 a2, undef, undef, undef, .map none, .pointer (some ⟨w.heap.size + 1, 0, none⟩), .pointer (some ⟨Bx, 0, none⟩), .map (some w.heap.size), .int .i64 a1, .int .i64 a2, .agg #[.int .i64 a1, .int .i64 a2], .slice A0 l0.length c0, .func (.func 42) #[] #[.pointer (some ⟨w.heap.size + 1 + 1 + 1, 0, none⟩), .pointer (some ⟨w.heap.size + 1 + 1, 0, none⟩)], .agg #[.int .i64 x.1.f0, .int .i64 x.1.f1], undef, undef, undef, undef, undef, undef], defers := [] })
  (fun x a' _ X Y row hs hg hr => by obtain ⟨Bx, e1, e2, e3⟩ := hs; exact ⟨Bx, e1, entBox_own (N := 0) Bx _ _ () X Y row e2 hg hr, e3⟩)
  ?assign ?body ?done ?stop
 case assign =>
  rintro l pre x W K ⟨⟨hc, hown⟩, hk, hB⟩ hK
  have hsk := hk.size
  have hbl := (Below.refl W.heap.size W).alloc (Nat.le_refl _) (Obj.cells #[Value.int .i64 x.1.f0, Value.int .i64 x.1.f1] 43)
  gi_wp2
  exact hK _ _ ((KeepsOthers.alloc _ _).from _) (LogKept.below hbl (by omega)) ⟨⟨(hbl.cell (p := ⟨w.heap.size + 1, 0, none⟩) (by show w.heap.size + 1 < W.heap.size; omega)).trans hc, hown.alloc _⟩, hk.trans (LogKept.below hbl (by omega)), below_alloc hB _⟩ ⟨W.heap.size, by omega, blk_new _ _, rfl⟩
 case body =>
  rintro l pre x a' W hl ⟨rr, hrr⟩ ⟨⟨hc, hown⟩, hk, hB⟩ ⟨Bx, hBx, bX, rfl⟩ hlt
  have e0 : W.cell? ⟨Bx, 0, none⟩ = some (.int .i64 x.1.f0) := (blk_cell bX 0).trans rfl
  have hsk := hk.size
  have hkey := Maps.keyOf_int_mk Try.underlying3 x.2
  gi_wp2_with (first
   | (gi_at_lookup; refine wpListIn_lookup_own_int _ rfl _ _ 62 rfl 3 3 .i64 (Maps.int_keyed Try.underlying3) Try.underlying62 Try.underlying3 (Try.zeroValue3 _) w.heap.size pre.length _ rfl hown _ _ rfl hkey ?_; intro c hat hwc)
   | (gi_at_mapUpdate; refine wpListIn_mapUpdate_own _ rfl _ _ _ 62 rfl 3 3 (Maps.int_keyed Try.underlying3) Try.underlying62 _ w.heap.size pre.length _ rfl hown (by simp only [maxLen]; omega) _ _ _ rfl rfl hkey _ [] (plainElem_int Try.underlying3 (wrap64_wf _)) ?_; intro w1 hown1 hgrow1))
  obtain ⟨es, ck, hh, _⟩ := hown
  have hbk : LogKept (w.heap.size + 1 + 1 + 1 + 1) (fun b => b = w.heap.size) W w1 := ⟨hgrow1.size, fun q hq hx => hgrow1.block q (by omega) (fun e => hx (Option.some.inj e))⟩
  exact ⟨KeepsFrom.of_grownBy hgrow1 (fun j e => by cases e; omega), hbk,
   ⟨cell_kept hc hgrow1 (fun r e => by cases e; exact ⟨_, hh, rfl⟩), by rw [List.map_append, List.map_singleton, tallyD_snoc, List.length_append, bumpD, hat]; exact hown1⟩, hk.trans hbk, hB.grown hgrow1 hB.size (fun k e => by cases e; exact Nat.le_refl _)⟩
 case done =>
  rintro D ys W hD rfl ⟨⟨hc, hown⟩, hk, hB⟩ hK
  have hq : (aliveS (P := fun e => (Lit.int .i64 e.f0).wf = true) a1 a2 l0 (wfAll_at hw) l0.length).map (·.1.f0) = (aliveL a1 a2 l0 l0.length).map (·.f0) := by
   rw [← aliveS_val (P := fun e => (Lit.int .i64 e.f0).wf = true) a1 a2 l0 (wfAll_at hw) l0.length (Nat.le_refl _), List.map_map]
   rfl
  rw [hq] at hown
  gi_wp2
  refine ⟨by simp, .inl ⟨_, _, rfl, run_takeDeferred hK, ?_⟩⟩
  exact ⟨_, results_tmp rfl _ _ _, rfl, (hown.mono (aliveS_len _ _ _ _ _)).kept (grownBy_putObj' _ D _) (fun e => by cases e; omega), hB.trans (belowK_b (w := w) (Nat.le_refl _) W D _ _ (by omega) hK rfl rfl)⟩
 case stop =>
  rintro D c pre W _ _ h _
  exact h.elim
end
theorem isKey_int (x : Int) : WideAt.IsKeyLit (.int .i64 x) := trivial
theorem tally_from : ∀ (xs : List Int) (D : DataW Unit) (c : Int → Nat), Maps.IsMap D → (∀ y, D.atKey (.int .i64 y) (.lit (.int .i64 0)) = .lit (.int .i64 (c y))) → (∀ y, c y + xs.length < 4611686018427387904) → ∀ x, (xs.foldl bumpD D).atKey (.int .i64 x) (.lit (.int .i64 0)) = .lit (.int .i64 ((c x + xs.count x : Nat) : Int))
 | [], _, _, _, hc, _, x => by simpa using hc x
 | y :: ys, D, c, hD, hc, hb, x => by
  have hw : wrap64 (((c y : Nat) : Int) + 1) = ((c y + 1 : Nat) : Int) := by
   have := hb y
   unfold wrap64
   omega
  have h1 : ∀ z, (bumpD D y).atKey (.int .i64 z) (.lit (.int .i64 0)) = .lit (.int .i64 (((if z = y then c z + 1 else c z) : Nat) : Int)) := fun z => by
   unfold bumpD
   rw [hc y]
   by_cases e : z = y
   ·subst e
    rw [Maps.atKey_put_same hD (isKey_int _), if_pos rfl]
    simp only [numD]
    rw [hw]
   ·rw [Maps.atKey_put_other (fun q => e (by injection q)), hc z, if_neg e]
  have ih := tally_from ys (bumpD D y) (fun z => if z = y then c z + 1 else c z) (hD.put _ _) h1 (fun z => by
   have := hb z
   rw [List.length_cons] at this
   split <;> omega) x
  rw [List.foldl_cons, ih, List.count_cons]
  by_cases e : x = y
  ·subst e
   rw [if_pos rfl, if_pos (by simp)]
   congr 3
   omega
  ·rw [if_neg e, if_neg (by simpa using fun q => e q.symm)]
   rfl
theorem tally_at (xs : List Int) (h : xs.length < 4611686018427387904) (x : Int) : (tallyD xs).atKey (.int .i64 x) (.lit (.int .i64 0)) = .lit (.int .i64 (xs.count x : Nat)) := by
 have := tally_from xs (.map []) (fun _ => 0) Maps.isMap_empty (fun _ => rfl) (fun _ => by omega) x
 simpa [tallyD] using this
def log_Of.f (l0 : List S43) (a1 a2 a3 : Int) : Option Int := if seesAll a2 a3 l0 = true ∧ wfAll l0 = true ∧ (Lit.int .i64 a1).wf = true ∧ l0.length < 8796093022208 then some ((((aliveL a2 a3 l0 l0.length).map (·.f0)).count a1 : Nat) : Int) else none
theorem log_Of.calls (A0 : Option Addr) (c0 : Nat) (l0 : List S43) (a1 a2 a3 : Int) (r : Int) (w : World) (hr0 : Kd.C k43 w A0 l0.length l0) (hc0 : l0.length ≤ c0) (h : log_Of.f l0 a1 a2 a3 = some r) :
  Calls Try.prog 28 #[.slice A0 l0.length c0, .int .i64 a1, .int .i64 a2, .int .i64 a3] w fun e w' => e = .returned (.int .i64 r) ∧ Below w.heap.size w w' := by
 unfold log_Of.f at h
 by_cases hs : seesAll a2 a3 l0 = true ∧ wfAll l0 = true ∧ (Lit.int .i64 a1).wf = true ∧ l0.length < 8796093022208
 ·rw [if_pos hs] at h
  obtain rfl := Option.some.inj h
  obtain ⟨hs, hw, hk, hlen⟩ := hs
  have hkey := Maps.keyOf_int_mk Try.underlying3 hk
  go_enter Try.func28, Try.ntmps28
  go_wp2_with (first | (go_at_call 37; refine (log_nodes.calls A0 c0 l0 a2 a3 _ hr0 hc0 hs hw hlen).mono ?_; rintro e w1 ⟨rfl, hown, hb⟩) | (at_lookup; refine wpList_lookup_own_int _ rfl _ _ 62 rfl 3 3 .i64 (Maps.int_keyed Try.underlying3) Try.underlying62 Try.underlying3 (Try.zeroValue3 _) w.heap.size l0.length _ rfl hown _ _ rfl hkey ?_; intro c hat hwc))
  go_ret
  rw [tally_at _ (by have := aliveL_max a2 a3 l0 l0.length; rw [List.length_map]; omega)] at hat
  have hq : ((((aliveL a2 a3 l0 l0.length).map (·.f0)).count a1 : Nat) : Int) = c := by simpa using hat
  exact ⟨by rw [hq]; rfl, hb⟩
 ·rw [if_neg hs] at h
  cases h
end Go.Proofs.Ytbedfoeifaegmaa.Gn
