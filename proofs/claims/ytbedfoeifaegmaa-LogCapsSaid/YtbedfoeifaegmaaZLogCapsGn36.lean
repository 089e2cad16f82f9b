import Derived.Test.YtbedfoeifaegmaaZLogCapsGn0
import Derived.Test.YtbedfoeifaegmaaZLogCapsGn6
import Derived.Test.YtbedfoeifaegmaaZLogCapsGn34
import Derived.Test.YtbedfoeifaegmaaZLogCapsGn35
import Derived.Maps.OwnIn
import Derived.Maps.RangeWalk
import Derived.Maps.Ext
import Derived.Shelf.SortM.Plain
import Derived.Shelf.SortM.SortNone
import Derived.Sort.OwnSortedInts
import Derived.Sort.OwnSorted
namespace Go.Proofs.Ytbedfoeifaegmaa.Gn
open Go.RowKit Go.Proofs.YtbedfoeifaegmaaW.PrintWords Go.Proofs.YtbedfoeifaegmaaW.PrintLast Go.Proofs.YtbedfoeifaegmaaW.PrintMore
attribute [local go_sem] max2_int min2_int max_two min_two max_three min_three max_four min_four   -- for this text's walks alone
set_option linter.unusedVariables false
set_option linter.unusedSimpArgs false
def log_Who.f (l0 : List S43) (a1 a2 : Int) : Option (List Int) := if seesAll a1 a2 l0 = true ∧ wfAll l0 = true ∧ l0.length < 8796093022208 then some ((uniqL ((aliveL a1 a2 l0 l0.length).map (·.f0))).mergeSort fun x y => decide (x ≤ y)) else none
/-- What has been taken of the numbers there are, and what is left. -/
structure WhoInv (xs : List Int) (left : Lit → Bool) (ks : List Int) : Prop where
 nd : ks.Nodup
 all : ∀ x, x ∈ xs ↔ x ∈ ks ∨ left (.int .i64 x) = true
 no : ∀ x ∈ ks, left (.int .i64 x) = false
theorem WhoInv.len {xs : List Int} {left : Lit → Bool} {ks : List Int} (h : WhoInv xs left ks) : ks.length ≤ xs.length := by
 have h1 : ks.length = (ks.filter fun x => xs.contains x).length := by
  rw [List.filter_eq_self.2 (fun x hx => by simpa using (h.all x).2 (.inl hx))]
 have h2 : ∀ (l m : List Int), l.Nodup → (∀ x ∈ l, x ∈ m) → l.length ≤ m.length := fun l => by
  induction l with
  | nil => intro m _ _; exact Nat.zero_le _
  | cons y ys ih =>
   intro m hn hm
   have hy := hm y (List.mem_cons_self ..)
   have hl := List.length_erase_of_mem hy
   have hp : 0 < m.length := List.length_pos_of_mem hy
   have := ih (m.erase y) (List.nodup_cons.1 hn).2 (fun x hx => (List.mem_erase_of_ne (fun e => (List.nodup_cons.1 hn).1 (by rw [← e]; exact hx))).2 (hm x (List.mem_cons_of_mem _ hx)))
   rw [List.length_cons]
   omega
 exact h2 ks xs h.nd (fun x hx => (h.all x).2 (.inl hx))
theorem WhoInv.step {xs : List Int} {left : Lit → Bool} {ks : List Int} (h : WhoInv xs left ks) {x : Int} (hx : left (.int .i64 x) = true) : WhoInv xs (fun z => left z && !z.sameKey (.int .i64 x)) (ks ++ [x]) := by
 have hk : ∀ y : Int, (Lit.int .i64 y).sameKey (.int .i64 x) = decide (y = x) := fun y => by
  by_cases e : y = x
  ·subst e; rw [decide_eq_true rfl]; exact WideAt.sameKey_self (isKey_int _)
  ·rw [decide_eq_false e]
   cases hs : (Lit.int .i64 y).sameKey (.int .i64 x)
   ·rfl
   ·have := WideAt.sameKey_eq hs
    injection this with _ h2
    exact absurd h2 e
 refine ⟨List.nodup_append.2 ⟨h.nd, by simp, fun a ha b hb => by simp at hb; subst hb; exact fun q => by have := h.no a ha; rw [q, hx] at this; cases this⟩, fun y => ?_, fun y hy => ?_⟩
 ·rw [h.all y, hk y]
  by_cases e : y = x
  ·subst e; simp [hx]
  ·simp [e]
 ·rw [hk y]
  rcases List.mem_append.1 hy with q | q
  ·rw [h.no y q]; rfl
  ·simp at q; subst q; simp
theorem WhoInv.done {xs : List Int} {left : Lit → Bool} {ks : List Int} (h : WhoInv xs left ks) (hl : ∀ kl, left kl = false) : (ks.mergeSort fun x y => decide (x ≤ y)) = (uniqL xs).mergeSort fun x y => decide (x ≤ y) := by
 have hp : ks.Perm (uniqL xs) := (List.perm_ext_iff_of_nodup h.nd (uniqL_nodup xs)).2 (fun x => by rw [uniqL_mem, h.all x, hl]; simp)
 have tr : ∀ a b c : Int, decide (a ≤ b) = true → decide (b ≤ c) = true → decide (a ≤ c) = true := fun a b c h1 h2 => by simp only [decide_eq_true_eq] at *; exact Int.le_trans h1 h2
 have tl : ∀ a b : Int, (decide (a ≤ b) || decide (b ≤ a)) = true := fun a b => by simp only [Bool.or_eq_true, decide_eq_true_eq]; exact Int.le_total a b
 refine List.Perm.eq_of_pairwise (le := fun a b => decide (a ≤ b) = true) (fun a b _ _ h1 h2 => ?_) (List.pairwise_mergeSort tr tl _) (List.pairwise_mergeSort tr tl _) (((List.mergeSort_perm _ _).trans hp).trans (List.mergeSort_perm _ _).symm)
 simp only [decide_eq_true_eq] at h1 h2
 exact Int.le_antisymm h1 h2
set_option maxRecDepth 100000 in
set_option maxHeartbeats 16000000 in
theorem log_Who.calls (A0 : Option Addr) (c0 : Nat) (l0 : List S43) (a1 a2 : Int) (r : List Int) (w : World) (hr0 : Kd.C k43 w A0 l0.length l0) (hc0 : l0.length ≤ c0) (h : log_Who.f l0 a1 a2 = some r) :
  Calls Try.prog 30 #[.slice A0 l0.length c0, .int .i64 a1, .int .i64 a2] w fun e w' => ∃ v0_ : Value, e = .returned (v0_) ∧ Kd.R (Kd.int .i64) 3 w' w.heap.size (fun _ => True) v0_ r ∧ Below w.heap.size w w' := by
 unfold log_Who.f at h
 by_cases hs : seesAll a1 a2 l0 = true ∧ wfAll l0 = true ∧ l0.length < 8796093022208
 ·rw [if_pos hs] at h
  obtain rfl := Option.some.inj h
  obtain ⟨hs, hw, hlen⟩ := hs
  have hxl : ((aliveL a1 a2 l0 l0.length).map (·.f0)).length ≤ l0.length := by rw [List.length_map]; exact aliveL_max a1 a2 l0 l0.length
  have hN := log_nodes.calls A0 c0 l0 a1 a2 w hr0 hc0 hs hw hlen
  generalize (aliveL a1 a2 l0 l0.length).map (·.f0) = xs at hxl hN
  obtain ⟨hT, hH, hS⟩ := has_tally xs
  obtain ⟨i0, hi, hz0, hz1, hz2⟩ := info_parts info3
  go_enter Try.func30, Try.ntmps30
  go_wp2_with (first | (go_at_call 37; refine hN.mono ?_; rintro e w1 ⟨rfl, hown, hb⟩) | (at_range; refine wpList_range_own _ rfl _ 62 rfl 3 3 (Maps.int_keyed Try.underlying3) Try.underlying62 _ w.heap.size l0.length _ rfl hown ?_; intro w2 hrg0 hg0 hs0))
  have hml := hown.lt
  have hB2 := hb.grown hg0 hb.size (fun k e => by cases e)
  have hrow0 := World.ownsRow_nil w2 w1.heap.size 3 1
  have hI0 : WhoInv xs (Maps.has (tallyD xs)) [] := ⟨List.nodup_nil, fun x => by rw [hH x]; simp [uniqL_mem], fun _ h => by cases h⟩
  have hs2 := hg0.size
  clear hN hown hg0 hr0
  have hsw := hb.size
  clear hT hH hS hb hs hw
  go_frame
  go_loopw [7] (fun v wr => ∃ (left : Lit → Bool) (cnt : Nat) (ks : List Int), wr.ranges Try.prog 3 (plainElem (H := Unit) Try.prog 3) w.heap.size w1.heap.size l0.length (tallyD xs) left cnt ∧
    wr.ownsRow w1.heap.size 3 1 v ks.length (ks.map (Value.int .i64)) ∧ Hid (WhoInv xs left ks) ∧ Hid (Below w.heap.size w wr) ∧ Hid (w1.heap.size ≤ wr.heap.size))
   (fun _ wr => wr.rangeLeft w.heap.size w1.heap.size)
  case atStart => exact ⟨_, _, [], hrg0, hrow0, hI0, hB2, hs2⟩
  case round =>
   obtain ⟨left, cnt, ks, hrg, hrow, HI, HB, HS⟩ := hrel
   have hkl : ks.length ≤ xs.length := HI.out.len
   go_wp2_with (first
    | (at_next; refine wpList_next_ranges_ii _ rfl _ rfl 3 3 .i64 .i64 (Maps.int_keyed Try.underlying3) Try.underlying3 Try.underlying3 w.heap.size w1.heap.size l0.length _ _ _ rfl hrg ?_ ?_)
    | go_in)
   ·intro hc0 hl0
    have hd : Hid ((ks.mergeSort fun x y => decide (x ≤ y)) = (uniqL xs).mergeSort fun x y => decide (x ≤ y)) := HI.out.done hl0
    have hsS := HS.out
    rcases hrow.2 with ⟨hnil, hk0⟩ | ⟨g, cap, cur, hv, hbase, hbb, h1, h2, h3, h4⟩
    ·subst hnil
     obtain rfl : ks = [] := List.eq_nil_of_length_eq_zero hk0
     have hsort := AnyM.slices_Sort_int_none log_sort none 0 wr
     change Calls Try.prog 38 _ _ _ at hsort
     clear hrg
     go_wp2_with (go_at_call 38; refine hsort.mono ?_; rintro e w' ⟨rfl, rfl⟩)
     go_ret
     refine ⟨_, rfl, ?_, HB.out⟩
     have e : (uniqL xs).mergeSort (fun x y => decide (x ≤ y)) = [] := by rw [← hd.out]; simp
     rw [e]
     exact Kd.R_nil _ _ _ _ _
    ·subst hv
     have hH : Go.Sort.Holds (Value.int .i64) wr g 0 ks.toArray := holds_of_blockI hbb (by simpa using h4)
     have hgl : g < wr.heap.size := (Array.getElem?_eq_some_iff.1 hbb).1
     have hsort := AnyM.slices_Sort_int log_sort g 0 cap ks wr hH hgl (by omega)
     change Calls Try.prog 38 _ _ _ at hsort
     have hl2 : (ks.mergeSort fun x y => decide (x ≤ y)).length = ks.length := List.length_mergeSort ks
     clear hrg hH
     go_wp2_with (go_at_call 38; refine hsort.mono ?_; rintro e w' ⟨rfl, nn, os, rfl⟩)
     go_ret
     have hg := grownBy_sortedI (w := wr) (g := g) (n := nn) (os := os) (ks.mergeSort fun x y => decide (x ≤ y)).toArray
     have hro := ownsRow_sortedI (n := nn) (os := os) (ts := ks.mergeSort fun x y => decide (x ≤ y)) hl2 hbase hbb h1 h2 h3
     refine ⟨_, rfl, ?_, HB.out.grown hg HB.out.size (fun k e => by cases e; omega)⟩
     rw [← hd.out]
     refine Kd.R_of_own (enc := Value.int .i64) (h1 := fun _ => rfl) ?_ (fun _ _ => trivial)
     rw [hl2]
     exact log_lower hro (by omega)
   ·intro x c w3 cnt1 hwx hwc hlx hat hrg1 hlt hg1 hs1 hen
    have hm0 : wr.rangeLeft w.heap.size w1.heap.size = cnt := hrg.left_eq
    have hsS := HS.out
    have hrow1 := hrow.kept hg1 (.inr (Ne.symm (row_ne_iter hrow hrg)))
    have HB1 : Hid (Below w.heap.size w w3) := HB.out.grown hg1 HB.out.size (fun k e => by cases e; omega)
    have hs3 : w1.heap.size ≤ w3.heap.size := by rw [hs1]; exact hsS
    clear hrow hrg hs1
    go_wp2_with (at_builtin; refine wpList_append_own_at _ rfl _ _ 32 rfl w1.heap.size 3 i0 (.int .i64 0) 1 8 Try.underlying32 hi hz0 hz1 hz2 rfl (by decide) _ _ _ rfl (hrow1.alloc _) ⟨w3.heap.size, 0, none⟩ 1 1 [.int .i64 x] rfl rfl ?c1 ?c2 ?c3 ?c4 ?c5 ?_)
    case c1 =>
     intro j u hj
     match j, hj with
     | 0, hj => simp at hj; subst hj; simp [Addr.add]
    case c2 => intro u hu; simp at hu; subst hu; rfl
    case c3 => unfold maxLen; omega
    case c4 => omega
    case c5 => rw [World.size_alloc]; omega
    ·intro v' w4 hown' hgrow _ hloc
     have hrg4 := (hrg1.alloc (.cells #[.int .i64 x] 3)).kept hgrow (row_ne_low (hrow1.alloc (.cells #[.int .i64 x] 3)) hml) (row_ne_iter (hrow1.alloc (.cells #[.int .i64 x] 3)) (hrg1.alloc (.cells #[.int .i64 x] 3)))
     have hrow4 : w4.ownsRow w1.heap.size 3 1 v' (ks ++ [x]).length ((ks ++ [x]).map (Value.int .i64)) := by simpa using hown'
     have hsz4 := hgrow.size
     rw [World.size_alloc] at hsz4
     have HB4 : Hid (Below w.heap.size w w4) := (below_alloc HB1.out (.cells #[.int .i64 x] 3)).grown hgrow (by rw [World.size_alloc]; omega) (fun k e => by have := ((hrow1.alloc (.cells #[.int .i64 x] 3)).lt k e).1; omega)
     have HS4 : Hid (w1.heap.size ≤ w4.heap.size) := (by show w1.heap.size ≤ w4.heap.size; omega)
     clear hown' hgrow hloc HB1 hrow1 hrg1
     go_wp2
     go_roundw
     case rel => exact ⟨_, cnt1, ks ++ [x], hrg4, hrow4, HI.out.step hlx, HB4, HS4⟩
     case measure => rw [hrg4.left_eq, hm0]; exact hlt
 ·rw [if_neg hs] at h
  cases h
end Go.Proofs.Ytbedfoeifaegmaa.Gn
