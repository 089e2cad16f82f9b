import Derived.Test.YthdoghhmooodjaaZPremiseAfterGn0
import Derived.Test.YthdoghhmooodjaaZPremiseAfterGn1
import Derived.Test.YthdoghhmooodjaaZPremiseAfterGn3
namespace Go.Proofs.Ythdoghhmooodjaa.Gn
open Go.RowKit Go.Proofs.YthdoghhmooodjaaW.PrintWords Go.Proofs.YthdoghhmooodjaaW.PrintLast Go.Proofs.YthdoghhmooodjaaW.PrintMore
attribute [local go_sem] max2_int min2_int max_two min_two max_three min_three max_four min_four   -- for this text's walks alone
set_option linter.unusedVariables false
set_option linter.unusedSimpArgs false
theorem gen_world {Q : World → Prop} {W : World} (R : World → Prop) (hR : R W) (h : ∀ W', R W' → Q W') : Q W := h W hR
set_option maxHeartbeats 600000 in
set_option maxRecDepth 100000 in
theorem bound_of.calls0 (k : Nat) (a0 a1 a2 a3 a4 a5 a6 a7 a8 a9 : Int) (A : Option Addr) (c : Nat) (l : List Int) (p : Int) (w : World) (hr : Kd.C (Kd.int .i64) w A l.length l) (hc : l.length ≤ c) (h : conf_Plain.f k a0 a1 a2 a3 a4 a5 a6 a7 a8 a9 l = some p) :
  Calls Try.prog 62 #[.agg #[.int .i64 a0, .int .i64 a1, .int .i64 a2, .int .i64 a3, .int .i64 a4, .int .i64 a5, .int .i64 a6, .int .i64 a7, .int .i64 a8, .int .i64 a9, .slice A l.length c]] w fun e w' => e = .returned (.tuple #[.agg #[.int .i64 a0, .int .i64 a1, .int .i64 a2, .int .i64 a3, .int .i64 a4, .int .i64 a5, .int .i64 a6, .int .i64 a7, .int .i64 a8, .int .i64 a9, .slice A l.length c], .bool (p == 0)]) ∧ Below w.heap.size w w' := by
 have Br := Try.underlying24
 have B2 := Try.underlying68
 have H := am_ h
 have HR := am_ hr
 have HC := am_ hc
 clear h hr hc
 go_enter Try.func62, Try.ntmps62
 go_wp2
 go_region_with (go_at_call 54; refine (conf_Plain.calls k a0 a1 a2 a3 a4 a5 a6 a7 a8 a9 A c l p _ ?s1 HC.out H.out).mono ?_; (case s1 => repeat (first | exact HR.out | (with_reducible refine Kd.C_alloc ?_ _) | (with_reducible refine Kd.C_drewN ?_ _) | (with_reducible refine Kd.C_drew ?_))); rintro e w1 ⟨rfl, hb⟩; have hz : w.heap.size + 1 < w1.heap.size := (by have := hb.size; simp at this; omega); have hbN : w1.heap[w.heap.size]? = some (.cells #[.int .i64 a0, .int .i64 a1, .int .i64 a2, .int .i64 a3, .int .i64 a4, .int .i64 a5, .int .i64 a6, .int .i64 a7, .int .i64 a8, .int .i64 a9, .slice A l.length c] 24 (0, 0)) := (hb.block _ (by simp; omega)).trans (by first | exact blk_alloc (blk_new w _) _ | exact blk_drew (blk_alloc (blk_new w _) _)); have hbS : w1.heap[w.heap.size + 1]? = some (.cells #[.int .i64 0, .int .i64 0, .int .i64 0, .int .i64 0, .int .i64 0, .int .i64 0, .int .i64 0, .int .i64 0, .int .i64 0, .int .i64 0, .slice none 0 0] 68 (0, 0)) := (hb.block _ (by simp)).trans (by have := blk_new (w.alloc (.cells #[.int .i64 a0, .int .i64 a1, .int .i64 a2, .int .i64 a3, .int .i64 a4, .int .i64 a5, .int .i64 a6, .int .i64 a7, .int .i64 a8, .int .i64 a9, .slice A l.length c] 24)) (.cells #[.int .i64 0, .int .i64 0, .int .i64 0, .int .i64 0, .int .i64 0, .int .i64 0, .int .i64 0, .int .i64 0, .int .i64 0, .int .i64 0, .slice none 0 0] 68); rw [World.size_alloc] at this; exact this); have Bs : w1.cell? ⟨w.heap.size, 0, none⟩ = some (.int .i64 a0) := (blk_cell hbN 0).trans rfl; have B3 : w1.frozen? ⟨w.heap.size, 0, none⟩ = false := blk_frozen hbN 0; have Bt : w1.cell? ⟨w.heap.size, 1, none⟩ = some (.int .i64 a1) := (blk_cell hbN 1).trans rfl; have B4 : w1.frozen? ⟨w.heap.size, 1, none⟩ = false := blk_frozen hbN 1; have Bu : w1.cell? ⟨w.heap.size, 2, none⟩ = some (.int .i64 a2) := (blk_cell hbN 2).trans rfl; have B5 : w1.frozen? ⟨w.heap.size, 2, none⟩ = false := blk_frozen hbN 2; have Bv : w1.cell? ⟨w.heap.size, 3, none⟩ = some (.int .i64 a3) := (blk_cell hbN 3).trans rfl; have B6 : w1.frozen? ⟨w.heap.size, 3, none⟩ = false := blk_frozen hbN 3; have Bw : w1.cell? ⟨w.heap.size, 4, none⟩ = some (.int .i64 a4) := (blk_cell hbN 4).trans rfl; have B7 : w1.frozen? ⟨w.heap.size, 4, none⟩ = false := blk_frozen hbN 4; have Bx : w1.cell? ⟨w.heap.size, 5, none⟩ = some (.int .i64 a5) := (blk_cell hbN 5).trans rfl; have B8 : w1.frozen? ⟨w.heap.size, 5, none⟩ = false := blk_frozen hbN 5; have By : w1.cell? ⟨w.heap.size, 6, none⟩ = some (.int .i64 a6) := (blk_cell hbN 6).trans rfl; have B9 : w1.frozen? ⟨w.heap.size, 6, none⟩ = false := blk_frozen hbN 6; have Bz : w1.cell? ⟨w.heap.size, 7, none⟩ = some (.int .i64 a7) := (blk_cell hbN 7).trans rfl; have Ba : w1.frozen? ⟨w.heap.size, 7, none⟩ = false := blk_frozen hbN 7; have D0 : w1.cell? ⟨w.heap.size, 8, none⟩ = some (.int .i64 a8) := (blk_cell hbN 8).trans rfl; have Bb : w1.frozen? ⟨w.heap.size, 8, none⟩ = false := blk_frozen hbN 8; have D1 : w1.cell? ⟨w.heap.size, 9, none⟩ = some (.int .i64 a9) := (blk_cell hbN 9).trans rfl; have Bc : w1.frozen? ⟨w.heap.size, 9, none⟩ = false := blk_frozen hbN 9; have Bd : w1.cell? ⟨w.heap.size, 10, none⟩ = some (.slice A l.length c) := (blk_cell hbN 10).trans rfl; have B0 : w1.frozen? ⟨w.heap.size, 10, none⟩ = false := blk_frozen hbN 10; have D2 : w1.cell? ⟨w.heap.size + 1, 0, none⟩ = some (.int .i64 0) := (blk_cell hbS 0).trans rfl; have Be : w1.frozen? ⟨w.heap.size + 1, 0, none⟩ = false := blk_frozen hbS 0; have D3 : w1.cell? ⟨w.heap.size + 1, 1, none⟩ = some (.int .i64 0) := (blk_cell hbS 1).trans rfl; have Bf : w1.frozen? ⟨w.heap.size + 1, 1, none⟩ = false := blk_frozen hbS 1; have D4 : w1.cell? ⟨w.heap.size + 1, 2, none⟩ = some (.int .i64 0) := (blk_cell hbS 2).trans rfl; have Bg : w1.frozen? ⟨w.heap.size + 1, 2, none⟩ = false := blk_frozen hbS 2; have D5 : w1.cell? ⟨w.heap.size + 1, 3, none⟩ = some (.int .i64 0) := (blk_cell hbS 3).trans rfl; have Bh : w1.frozen? ⟨w.heap.size + 1, 3, none⟩ = false := blk_frozen hbS 3; have D6 : w1.cell? ⟨w.heap.size + 1, 4, none⟩ = some (.int .i64 0) := (blk_cell hbS 4).trans rfl; have Bi : w1.frozen? ⟨w.heap.size + 1, 4, none⟩ = false := blk_frozen hbS 4; have D7 : w1.cell? ⟨w.heap.size + 1, 5, none⟩ = some (.int .i64 0) := (blk_cell hbS 5).trans rfl; have Bj : w1.frozen? ⟨w.heap.size + 1, 5, none⟩ = false := blk_frozen hbS 5; have D8 : w1.cell? ⟨w.heap.size + 1, 6, none⟩ = some (.int .i64 0) := (blk_cell hbS 6).trans rfl; have Bk : w1.frozen? ⟨w.heap.size + 1, 6, none⟩ = false := blk_frozen hbS 6; have D9 : w1.cell? ⟨w.heap.size + 1, 7, none⟩ = some (.int .i64 0) := (blk_cell hbS 7).trans rfl; have Bl : w1.frozen? ⟨w.heap.size + 1, 7, none⟩ = false := blk_frozen hbS 7; have Da : w1.cell? ⟨w.heap.size + 1, 8, none⟩ = some (.int .i64 0) := (blk_cell hbS 8).trans rfl; have Bm : w1.frozen? ⟨w.heap.size + 1, 8, none⟩ = false := blk_frozen hbS 8; have Db : w1.cell? ⟨w.heap.size + 1, 9, none⟩ = some (.int .i64 0) := (blk_cell hbS 9).trans rfl; have Bn : w1.frozen? ⟨w.heap.size + 1, 9, none⟩ = false := blk_frozen hbS 9; have Bo : w1.cell? ⟨w.heap.size + 1, 10, none⟩ = some (.slice none 0 0) := (blk_cell hbS 10).trans rfl; have B1 : w1.frozen? ⟨w.heap.size + 1, 10, none⟩ = false := blk_frozen hbS 10; have Bq := am_ (show Below w.heap.size w w1 from (by first | exact ((below_alloc (below_alloc (Below.refl _ _) _) _)).trans (hb.mono (by simp; omega)) | exact ((below_drew (below_alloc (below_alloc (Below.refl _ _) _) _))).trans (hb.mono (by simp; omega)))); clear hb)
 all_goals
  clear Bs B3 D2 Be Bt B4 D3 Bf Bu B5 D4 Bg Bv B6 D5 Bh Bw B7 D6 Bi Bx B8 D7 Bj By B9 D8 Bk Bz Ba D9 Bl D0 Bb Da Bm D1 Bc Db Bn Bd B0 Bo B1
  refine gen_world (Q := fun W => Exit.then _ _ _ _ W) (fun W => W.heap[w.heap.size + 1]? = some (.cells #[.int .i64 a0, .int .i64 a1, .int .i64 a2, .int .i64 a3, .int .i64 a4, .int .i64 a5, .int .i64 a6, .int .i64 a7, .int .i64 a8, .int .i64 a9, .slice A l.length c] 68 (0, 0)) ∧ Below w.heap.size w W) ?_ ?_
  ·refine ⟨?_, ?_⟩
   ·refine ((blk_set (blk_set (blk_set (blk_set (blk_set (blk_set (blk_set (blk_set (blk_set (blk_set (blk_set hbS 0 (.int .i64 a0)) 1 (.int .i64 a1)) 2 (.int .i64 a2)) 3 (.int .i64 a3)) 4 (.int .i64 a4)) 5 (.int .i64 a5)) 6 (.int .i64 a6)) 7 (.int .i64 a7)) 8 (.int .i64 a8)) 9 (.int .i64 a9)) 10 (.slice A l.length c))).trans ?_
    simp only [List.setIfInBounds_toArray, List.set_cons_zero, List.set_cons_succ]
   ·(repeat (first | with_reducible exact Bq.out | (with_reducible refine Below.setCell ?_ (by simp) _) | with_reducible apply below_drew))
  ·clear hbS hbN hz Bq
   rintro W ⟨hF, hB⟩
   have Dc : W.cell? ⟨w.heap.size + 1, 0, none⟩ = some (.int .i64 a0) := (blk_cell hF 0).trans rfl
   have Dd : W.cell? ⟨w.heap.size + 1, 1, none⟩ = some (.int .i64 a1) := (blk_cell hF 1).trans rfl
   have De : W.cell? ⟨w.heap.size + 1, 2, none⟩ = some (.int .i64 a2) := (blk_cell hF 2).trans rfl
   have Df : W.cell? ⟨w.heap.size + 1, 3, none⟩ = some (.int .i64 a3) := (blk_cell hF 3).trans rfl
   have Dg : W.cell? ⟨w.heap.size + 1, 4, none⟩ = some (.int .i64 a4) := (blk_cell hF 4).trans rfl
   have Dh : W.cell? ⟨w.heap.size + 1, 5, none⟩ = some (.int .i64 a5) := (blk_cell hF 5).trans rfl
   have Di : W.cell? ⟨w.heap.size + 1, 6, none⟩ = some (.int .i64 a6) := (blk_cell hF 6).trans rfl
   have Dj : W.cell? ⟨w.heap.size + 1, 7, none⟩ = some (.int .i64 a7) := (blk_cell hF 7).trans rfl
   have Dk : W.cell? ⟨w.heap.size + 1, 8, none⟩ = some (.int .i64 a8) := (blk_cell hF 8).trans rfl
   have Dl : W.cell? ⟨w.heap.size + 1, 9, none⟩ = some (.int .i64 a9) := (blk_cell hF 9).trans rfl
   have Bp : W.cell? ⟨w.heap.size + 1, 10, none⟩ = some (.slice A l.length c) := (blk_cell hF 10).trans rfl
   have Dm := am_ hB
   clear hB hF
   go_wp2
   refine bodyPost_ret (v := .tuple #[.agg #[.int .i64 a0, .int .i64 a1, .int .i64 a2, .int .i64 a3, .int .i64 a4, .int .i64 a5, .int .i64 a6, .int .i64 a7, .int .i64 a8, .int .i64 a9, .slice A l.length c], .bool (p == 0)]) ?_ rfl ⟨rfl, Dm.out⟩
   simp [results, Try.results62, go_sem, B2, Dc, Dd, De, Df, Dg, Dh, Di, Dj, Dk, Dl, Bp]
def bound_of.f (k : Nat) (B1 B2 B3 B4 B5 B6 B7 B8 B9 Ba : Int) (B0 : List Int) : Option Bool := (conf_Plain.f k B1 B2 B3 B4 B5 B6 B7 B8 B9 Ba B0).bind fun p => some (p == 0)
theorem bound_of.mono : ∀ a0 a1 a2 a3 a4 a5 a6 a7 a8 a9 B0 k, LeO (bound_of.f k a0 a1 a2 a3 a4 a5 a6 a7 a8 a9 B0) (bound_of.f (k + 1) a0 a1 a2 a3 a4 a5 a6 a7 a8 a9 B0) := by
 intro a0 a1 a2 a3 a4 a5 a6 a7 a8 a9 B0 k
 exact LeO.bind (conf_Plain.mono _ _ _ _ _ _ _ _ _ _ _ _) (fun _ => LeO.refl _)
theorem bound_of.calls (k : Nat) (B3 B4 B5 B6 B7 B8 B9 Ba Bb Bc : Int) (B1 : Option Addr) (B2 : Nat) (B0 : List Int) (r : Bool) (w : World) (Bd : Kd.C (Kd.int .i64) w B1 B0.length B0) (Be : B0.length ≤ B2) (h : bound_of.f k B3 B4 B5 B6 B7 B8 B9 Ba Bb Bc B0 = some r) :
  Calls Try.prog 62 #[.agg #[.int .i64 B3, .int .i64 B4, .int .i64 B5, .int .i64 B6, .int .i64 B7, .int .i64 B8, .int .i64 B9, .int .i64 Ba, .int .i64 Bb, .int .i64 Bc, .slice B1 B0.length B2]] w fun e w' => e = .returned (.tuple #[.agg #[.int .i64 B3, .int .i64 B4, .int .i64 B5, .int .i64 B6, .int .i64 B7, .int .i64 B8, .int .i64 B9, .int .i64 Ba, .int .i64 Bb, .int .i64 Bc, .slice B1 B0.length B2], .bool r]) ∧ Below w.heap.size w w' := by
 obtain ⟨p, hp, h⟩ := Option.bind_eq_some_iff.mp h
 obtain rfl := Option.some.inj h
 exact bound_of.calls0 k _ _ _ _ _ _ _ _ _ _ _ _ _ p w Bd Be hp
def bound_plain_begin.f (B3 B4 B5 B6 B7 B8 B0 B1 B9 Ba : Int) (B2 : List Int) (a1 : Int) : Option (Int) := some (wrap64 (B0 + (wrap64 (a1 * B1))))
set_option maxHeartbeats 8000000 in
set_option maxRecDepth 100000 in
theorem bound_plain_begin.calls (B8 B9 Ba Bb Bc Bd B5 B6 Be Bf : Int) (B1 : Option Addr) (B2 : Nat) (B0 : List Int) (a1 r : Int) (w : World) (B3 : Kd.C (Kd.int .i64) w B1 B0.length B0) (B4 : B0.length ≤ B2) (h : bound_plain_begin.f B8 B9 Ba Bb Bc Bd B5 B6 Be Bf B0 a1 = some r) :
  Calls Try.prog 108 #[.agg #[.int .i64 B8, .int .i64 B9, .int .i64 Ba, .int .i64 Bb, .int .i64 Bc, .int .i64 Bd, .int .i64 B5, .int .i64 B6, .int .i64 Be, .int .i64 Bf, .slice B1 B0.length B2], .int .i64 a1] w fun e w' => e = .returned (.int .i64 r) ∧ Below w.heap.size w w' := by
 have Bl := Try.underlying68
 have Bi := am_ B3
 have Bj := am_ B4
 clear B3 B4
 have HB := am_ (Below.refl w.heap.size w)
 have H : (some (wrap64 (B5 + (wrap64 (a1 * B6))))) = some r := h
 clear h
 obtain rfl := Option.some.inj H
 go_enter Try.func108, Try.ntmps108
 go_wp2_with (first | ((with_reducible refine gate_dst (N := 2) rfl ?_); refine bxe_ 2 68 #[.int .i64 B8, .int .i64 B9, .int .i64 Ba, .int .i64 Bb, .int .i64 Bc, .int .i64 Bd, .int .i64 B5, .int .i64 B6, .int .i64 Be, .int .i64 Bf, .slice B1 B0.length B2] ?_; intro Bk hg w3 hbox hb; have B7 := am_ (hbox); have Bg := gwk_ HB hg; have Bh := Bg; replace HB := bst_ HB hb; clear hb hbox hg; have Bm := cells_11 B7.out; have Bn := frozen_11 B7.out))
 go_ret
 exact ⟨by first | rfl | (simp [*] <;> rfl), by repeat (first | (with_reducible first | exact HB.out | apply ba_ | apply bn_ | apply bd_ | refine bs_ ?_ Bh.out) | exact HB.out)⟩
def bound_plain_middle.f (B2 B3 B4 B5 B6 B7 B8 B0 B9 Ba : Int) (B1 : List Int) (a1 : Int) : Option (Int) := (bound_plain_begin.f B2 B3 B4 B5 B6 B7 B8 B0 B9 Ba B1 a1).bind fun Bb => (some (wrap64 (Bb + (wrap64 (Int.tdiv B0 2)))))
def bound_plain_middle.T1 : Bool × List (List Nat × List Nat) := (true, [([], []), ([], []), ([0, 1], [0, 1]), ([], []), ([3], [3]), ([4], [4]), ([5], [5]), ([2, 6], [2, 6]), ([7, 2, 0, 1, 2, 3, 4, 5, 6, 7], [7])])
def bound_plain_middle.B1 : List Nat := [0, 0, 3, 0, 8, 24, 56, 127, 255]
theorem bound_plain_middle.tab1 : rtab .any (opsOf Try.f107 1) = bound_plain_middle.T1 := by kernel_rfl
theorem bound_plain_middle.bits1 : waitsOk bound_plain_middle.T1.2 bound_plain_middle.B1 = true := by kernel_rfl
set_option maxHeartbeats 8000000 in
set_option maxRecDepth 100000 in
theorem bound_plain_middle.calls (B5 B6 B7 B8 B9 Ba Bb Bc Bd Be : Int) (B3 : Option Addr) (B4 : Nat) (B2 : List Int) (a1 r : Int) (w : World) (Bf : Kd.C (Kd.int .i64) w B3 B2.length B2) (Bg : B2.length ≤ B4) (h : bound_plain_middle.f B5 B6 B7 B8 B9 Ba Bb Bc Bd Be B2 a1 = some r) :
  Calls Try.prog 107 #[.agg #[.int .i64 B5, .int .i64 B6, .int .i64 B7, .int .i64 B8, .int .i64 B9, .int .i64 Ba, .int .i64 Bb, .int .i64 Bc, .int .i64 Bd, .int .i64 Be, .slice B3 B2.length B4], .int .i64 a1] w fun e w' => e = .returned (.int .i64 r) ∧ Below w.heap.size w w' := by
 have Bl := Try.underlying68
 have Bh := am_ Bf
 have Bi := am_ Bg
 clear Bf Bg
 have HB := am_ (Below.refl w.heap.size w)
 have H := h
 unfold bound_plain_middle.f at H
 clear h
 obtain ⟨Bm, A3, H⟩ := bes_ H
 try dsimp only at H
 obtain rfl := Option.some.inj H
 go_enter Try.func107, Try.ntmps107
 try go_wp2_with (first | ((with_reducible refine gate_dst (N := 2) rfl ?_); refine bxe_ 2 68 #[.int .i64 B5, .int .i64 B6, .int .i64 B7, .int .i64 B8, .int .i64 B9, .int .i64 Ba, .int .i64 Bb, .int .i64 Bc, .int .i64 Bd, .int .i64 Be, .slice B3 B2.length B4] ?_; intro B1 hg w4 hbox hb; have B0 := am_ (hbox); have Bj := gwk_ HB hg; have Bk := Bj; replace HB := bst_ HB hb; clear hb hbox hg))
 replace B0 := am_ (blk_drew B0.out)
 replace HB := am_ (below_drew1 HB.out)
 refine start_ (n := 9) (S := fun w' => ce_ w' B1 0 (.int .i64 B5) ∧ ce_ w' B1 1 (.int .i64 B6) ∧ ce_ w' B1 2 (.int .i64 B7) ∧ ce_ w' B1 3 (.int .i64 B8) ∧ ce_ w' B1 4 (.int .i64 B9) ∧ ce_ w' B1 5 (.int .i64 Ba) ∧ ce_ w' B1 6 (.int .i64 Bb) ∧ ce_ w' B1 7 (.int .i64 Bc) ∧ ce_ w' B1 8 (.int .i64 Bd) ∧ ce_ w' B1 9 (.int .i64 Be) ∧ ce_ w' B1 10 (.slice B3 B2.length B4)) (ds := []) #[false, false, false, false, false, false, false, false, false] (by kernel_rfl) rfl rfl ⟨(blk_cell B0.out 0).trans rfl, (blk_cell B0.out 1).trans rfl, (blk_cell B0.out 2).trans rfl, (blk_cell B0.out 3).trans rfl, (blk_cell B0.out 4).trans rfl, (blk_cell B0.out 5).trans rfl, (blk_cell B0.out 6).trans rfl, (blk_cell B0.out 7).trans rfl, (blk_cell B0.out 8).trans rfl, (blk_cell B0.out 9).trans rfl, (blk_cell B0.out 10).trans rfl⟩ (fun hHeld => ?_); refine with_tabW bound_plain_middle.tab1 bound_plain_middle.bits1 (fun HT_ HW_ => ?_)
 generalize w4.drew = w5 at B0 HB hHeld ⊢
 refine pur_ 1 (some 6) rfl rfl (any_of HT_.out (by kernel_rfl)) ?_
 refine pur_ 3 (some 8) rfl rfl (any_of HT_.out (by kernel_rfl)) ?_
 refine pur_ 4 (some 9) rfl rfl (any_of HT_.out (by kernel_rfl)) ?_
 refine tak_ 0 (some 5) rfl rfl (take_ofW HT_.out HW_.out (by kernel_rfl)) hHeld ?_ (by rintro w' ⟨s0, s1, s2, s3, s4, s5, s6, s7, s8, s9, s10⟩; go_simp; with_reducible rfl)
 refine tak_ 5 (some 10) rfl rfl (take_ofW HT_.out HW_.out (by kernel_rfl)) hHeld ?_ (by rintro w' ⟨s0, s1, s2, s3, s4, s5, s6, s7, s8, s9, s10⟩; go_simp; with_reducible rfl)
 refine pur_ 6 (some 11) rfl rfl (any_of HT_.out (by kernel_rfl)) ?_
 refine oon_ 2 (some 7) rfl rfl (one_of HT_.out (by kernel_rfl)) (fun K hK => ?_)
 refine gos_ Try.func108 (bound_plain_begin.calls B5 B6 B7 B8 B9 Ba Bb Bc Bd Be _ _ B2 a1 _ _ (Kd.C_below Bh.out HB.out) Bi.out A3.out) ?_
 rintro e w6 ⟨rfl, hb⟩
 refine ⟨_, rfl, ?_⟩
 replace B0 := bkb_ B0 hb
 replace HB := bst_ HB hb
 (try clear hb)
 (try clear hb2)
 (try clear hk)
 (try clear hi)
 refine hK.out _ _ (cells_11 B0.out) (fun hHeld => ?_)
 clear hK K
 refine nor_ 7 ?_
 refine pur_ 7 (some 12) rfl rfl (any_of HT_.out (by kernel_rfl)) ?_
 refine pur_ 8 (some 4) rfl rfl (any_of HT_.out (by kernel_rfl)) ?_
 refine done_ (done_of HT_.out (by kernel_rfl)) ?_
 try go_wp2
 go_ret
 exact ⟨by first | rfl | (simp [*] <;> rfl), by repeat (first | (with_reducible first | exact HB.out | apply ba_ | apply bn_ | apply bd_ | refine bs_ ?_ Bk.out) | exact HB.out)⟩
def bound_plain_last.f (B1 B2 B3 B4 B5 B6 B7 B8 B9 Ba : Int) (B0 : List Int) : Option (Int) := (bound_plain_middle.f B1 B2 B3 B4 B5 B6 B7 B8 B9 Ba B0 (wrap64 ((B0.length : Int) - 1))).bind fun Bb => (some Bb)
set_option maxHeartbeats 8000000 in
set_option maxRecDepth 100000 in
theorem bound_plain_last.calls (B6 B7 B8 B9 Ba Bb Bc Bd Be Bf : Int) (B2 : Option Addr) (B3 : Nat) (B0 : List Int) (r : Int) (w : World) (B4 : Kd.C (Kd.int .i64) w B2 B0.length B0) (B5 : B0.length ≤ B3) (h : bound_plain_last.f B6 B7 B8 B9 Ba Bb Bc Bd Be Bf B0 = some r) :
  Calls Try.prog 94 #[.agg #[.int .i64 B6, .int .i64 B7, .int .i64 B8, .int .i64 B9, .int .i64 Ba, .int .i64 Bb, .int .i64 Bc, .int .i64 Bd, .int .i64 Be, .int .i64 Bf, .slice B2 B0.length B3]] w fun e w' => e = .returned (.int .i64 r) ∧ Below w.heap.size w w' := by
 have Bn := Try.underlying68
 have Bg := am_ B4
 have Bh := am_ B5
 clear B4 B5
 have HB := am_ (Below.refl w.heap.size w)
 have H := h
 unfold bound_plain_last.f at H
 clear h
 replace H := Option.bind_eq_some_iff.mp H
 obtain ⟨Bk, Bl, H⟩ := H
 replace H : (some Bk) = some r := H
 have A2 := am_ Bl
 clear Bl
 obtain rfl := Option.some.inj H
 go_enter Try.func94, Try.ntmps94
 go_wp2_with (first | ((with_reducible refine gate_dst (N := 1) rfl ?_); refine bxe_ 1 68 #[.int .i64 B6, .int .i64 B7, .int .i64 B8, .int .i64 B9, .int .i64 Ba, .int .i64 Bb, .int .i64 Bc, .int .i64 Bd, .int .i64 Be, .int .i64 Bf, .slice B2 B0.length B3] ?_; intro Bm hg w3 hbox hb; have B1 := am_ (hbox); have Bi := gwk_ HB hg; have Bj := Bi; replace HB := bst_ HB hb; clear hb hbox hg; have Bo := cells_11 B1.out; have Bp := frozen_11 B1.out) | ((with_reducible refine gate_callee (f := 107) rfl ?_); refine gom_ (some 9) Try.func107 (bound_plain_middle.calls B6 B7 B8 B9 Ba Bb Bc Bd Be Bf _ _ B0 (wrap64 ((B0.length : Int) - 1)) _ _ (Kd.C_below Bg.out HB.out) Bh.out A2.out) ?_; rintro e w5 ⟨rfl, hb⟩; refine ⟨_, rfl, ?_⟩; replace B1 := bkb_ B1 hb; replace HB := bst_ HB hb; (try clear hb)))
 go_ret
 exact ⟨by first | rfl | (simp [*] <;> rfl), by repeat (first | (with_reducible first | exact HB.out | apply ba_ | apply bn_ | apply bd_ | refine bs_ ?_ Bj.out) | exact HB.out)⟩
def bound_plain_slowest.f (B3 B4 B5 B6 B0 B1 B7 B8 B9 Ba : Int) (B2 : List Int) : Option (Int) := some (wrap64 (B0 - B1))
set_option maxHeartbeats 8000000 in
set_option maxRecDepth 100000 in
theorem bound_plain_slowest.calls (B8 B9 Ba Bb B5 B6 Bc Bd Be Bf : Int) (B1 : Option Addr) (B2 : Nat) (B0 : List Int) (r : Int) (w : World) (B3 : Kd.C (Kd.int .i64) w B1 B0.length B0) (B4 : B0.length ≤ B2) (h : bound_plain_slowest.f B8 B9 Ba Bb B5 B6 Bc Bd Be Bf B0 = some r) :
  Calls Try.prog 95 #[.agg #[.int .i64 B8, .int .i64 B9, .int .i64 Ba, .int .i64 Bb, .int .i64 B5, .int .i64 B6, .int .i64 Bc, .int .i64 Bd, .int .i64 Be, .int .i64 Bf, .slice B1 B0.length B2]] w fun e w' => e = .returned (.int .i64 r) ∧ Below w.heap.size w w' := by
 have Bl := Try.underlying68
 have Bi := am_ B3
 have Bj := am_ B4
 clear B3 B4
 have HB := am_ (Below.refl w.heap.size w)
 have H : (some (wrap64 (B5 - B6))) = some r := h
 clear h
 obtain rfl := Option.some.inj H
 go_enter Try.func95, Try.ntmps95
 go_wp2_with (first | ((with_reducible refine gate_dst (N := 1) rfl ?_); refine bxe_ 1 68 #[.int .i64 B8, .int .i64 B9, .int .i64 Ba, .int .i64 Bb, .int .i64 B5, .int .i64 B6, .int .i64 Bc, .int .i64 Bd, .int .i64 Be, .int .i64 Bf, .slice B1 B0.length B2] ?_; intro Bk hg w2 hbox hb; have B7 := am_ (hbox); have Bg := gwk_ HB hg; have Bh := Bg; replace HB := bst_ HB hb; clear hb hbox hg; have Bm := cells_11 B7.out; have Bn := frozen_11 B7.out))
 go_ret
 exact ⟨by first | rfl | (simp [*] <;> rfl), by repeat (first | (with_reducible first | exact HB.out | apply ba_ | apply bn_ | apply bd_ | refine bs_ ?_ Bh.out) | exact HB.out)⟩
def bound_plain_guard.f (B4 B5 B2 B6 B3 B0 B7 B8 B9 Ba : Int) (B1 : List Int) : Option (Int) := (bound_plain_last.f B4 B5 B2 B6 B3 B0 B7 B8 B9 Ba B1).bind fun Bc => ((bound_plain_slowest.f B4 B5 B2 B6 B3 B0 B7 B8 B9 Ba B1).bind fun Bd => ((bound_plain_slowest.f B4 B5 B2 B6 B3 B0 B7 B8 B9 Ba B1).bind fun Bb => (if Bb = 0 then (none) else (some (wrap64 ((wrap64 ((wrap64 (Int.tdiv (wrap64 ((wrap64 ((wrap64 ((wrap64 (2 * B0)) * Bc)) + Bd)) - 1)) Bb)) + B3)) + (wrap64 ((wrap64 (B2 + 1)) * B0))))))))
def bound_plain_guard.T1 : Bool × List (List Nat × List Nat) := (true, [([], []), ([0], [0]), ([1], [1]), ([2], [2]), ([], []), ([4], [4]), ([3, 5], [3, 5]), ([6, 5, 0, 1, 2, 3, 4, 5, 6], [6])])
def bound_plain_guard.B1 : List Nat := [0, 1, 3, 7, 0, 16, 63, 127]
theorem bound_plain_guard.tab1 : rtab .any (opsOf Try.f63 1) = bound_plain_guard.T1 := by kernel_rfl
theorem bound_plain_guard.bits1 : waitsOk bound_plain_guard.T1.2 bound_plain_guard.B1 = true := by kernel_rfl
def bound_plain_guard.T2 : Bool × List (List Nat × List Nat) := (true, [([], []), ([], []), ([1], [1]), ([0, 2], [0, 2]), ([3], [3]), ([], []), ([5, 2], [5]), ([4, 6], [4, 6]), ([], []), ([8], [8]), ([9], [9]), ([7, 10], [7, 10]), ([], []), ([12], [12]), ([13], [13]), ([14], [14]), ([], []), ([16], [16]), ([17], [17]), ([15, 18], [15, 18]), ([11, 19], [11, 19]), ([20, 6, 0, 1, 2, 3, 4, 5, 6, 7, 8, 9, 10, 11, 12, 13, 14, 15, 16, 17, 18, 19, 20], [20])])
def bound_plain_guard.B2 : List Nat := [0, 0, 2, 7, 15, 0, 38, 127, 0, 256, 768, 2047, 0, 4096, 12288, 28672, 0, 65536, 196608, 520192, 1048575, 2097151]
theorem bound_plain_guard.tab2 : rtab .any (opsOf Try.f63 2) = bound_plain_guard.T2 := by kernel_rfl
theorem bound_plain_guard.bits2 : waitsOk bound_plain_guard.T2.2 bound_plain_guard.B2 = true := by kernel_rfl
set_option maxHeartbeats 8000000 in
set_option maxRecDepth 100000 in
theorem bound_plain_guard.calls (B3 B4 B5 B6 B7 B8 B9 Ba Bb Bc : Int) (Bd : Option Addr) (Be : Nat) (B2 : List Int) (r : Int) (w : World) (Bh : Kd.C (Kd.int .i64) w Bd B2.length B2) (Bi : B2.length ≤ Be) (h : bound_plain_guard.f B3 B4 B5 B6 B7 B8 B9 Ba Bb Bc B2 = some r) :
  Calls Try.prog 63 #[.agg #[.int .i64 B3, .int .i64 B4, .int .i64 B5, .int .i64 B6, .int .i64 B7, .int .i64 B8, .int .i64 B9, .int .i64 Ba, .int .i64 Bb, .int .i64 Bc, .slice Bd B2.length Be]] w fun e w' => e = .returned (.int .i64 r) ∧ Below w.heap.size w w' := by
 have Bm := Try.underlying68
 have Bf := am_ Bh
 have Bg := am_ Bi
 clear Bh Bi
 have HB := am_ (Below.refl w.heap.size w)
 have H := h
 unfold bound_plain_guard.f at H
 clear h
 obtain ⟨Bn, A2, H⟩ := bes_ H
 try dsimp only at H
 obtain ⟨Bo, A3, H⟩ := bes_ H
 try dsimp only at H
 obtain ⟨Bj, A4, H⟩ := bes_ H
 try dsimp only at H
 by_cases c5 : Bj = 0
 ·rw [if_pos c5] at H
  exact absurd H (by simp)
 ·rw [if_neg c5] at H
  have Bp : (Bj == 0) = false := beq_eq_false_iff_ne.mpr c5
  have Bq : (Bj != 0) = true := bne_iff_ne.mpr c5
  obtain rfl := Option.some.inj H
  go_enter Try.func63, Try.ntmps63
  try go_wp2_with (first | ((with_reducible refine gate_dst (N := 1) rfl ?_); refine bxe_ 1 68 #[.int .i64 B3, .int .i64 B4, .int .i64 B5, .int .i64 B6, .int .i64 B7, .int .i64 B8, .int .i64 B9, .int .i64 Ba, .int .i64 Bb, .int .i64 Bc, .slice Bd B2.length Be] ?_; intro B1 hg w6 hbox hb; have B0 := am_ (hbox); have Bk := gwk_ HB hg; have Bl := Bk; replace HB := bst_ HB hb; clear hb hbox hg))
  replace B0 := am_ (blk_drew B0.out)
  replace HB := am_ (below_drew1 HB.out)
  refine start_ (n := 8) (S := fun w' => ce_ w' B1 0 (.int .i64 B3) ∧ ce_ w' B1 1 (.int .i64 B4) ∧ ce_ w' B1 2 (.int .i64 B5) ∧ ce_ w' B1 3 (.int .i64 B6) ∧ ce_ w' B1 4 (.int .i64 B7) ∧ ce_ w' B1 5 (.int .i64 B8) ∧ ce_ w' B1 6 (.int .i64 B9) ∧ ce_ w' B1 7 (.int .i64 Ba) ∧ ce_ w' B1 8 (.int .i64 Bb) ∧ ce_ w' B1 9 (.int .i64 Bc) ∧ ce_ w' B1 10 (.slice Bd B2.length Be)) (ds := []) #[false, false, false, false, false, false, false, false] (by kernel_rfl) rfl rfl ⟨(blk_cell B0.out 0).trans rfl, (blk_cell B0.out 1).trans rfl, (blk_cell B0.out 2).trans rfl, (blk_cell B0.out 3).trans rfl, (blk_cell B0.out 4).trans rfl, (blk_cell B0.out 5).trans rfl, (blk_cell B0.out 6).trans rfl, (blk_cell B0.out 7).trans rfl, (blk_cell B0.out 8).trans rfl, (blk_cell B0.out 9).trans rfl, (blk_cell B0.out 10).trans rfl⟩ (fun hHeld => ?_); refine with_tabW bound_plain_guard.tab1 bound_plain_guard.bits1 (fun HT_ HW_ => ?_)
  generalize w6.drew = w7 at B0 HB hHeld ⊢
  refine pur_ 0 (some 4) rfl rfl (any_of HT_.out (by kernel_rfl)) ?_
  refine pur_ 1 (some 5) rfl rfl (any_of HT_.out (by kernel_rfl)) ?_
  refine tak_ 2 (some 6) rfl rfl (take_ofW HT_.out HW_.out (by kernel_rfl)) hHeld ?_ (by rintro w' ⟨s0, s1, s2, s3, s4, s5, s6, s7, s8, s9, s10⟩; go_simp; with_reducible rfl)
  refine pur_ 3 (some 7) rfl rfl (any_of HT_.out (by kernel_rfl)) ?_
  refine tak_ 4 (some 8) rfl rfl (take_ofW HT_.out HW_.out (by kernel_rfl)) hHeld ?_ (by rintro w' ⟨s0, s1, s2, s3, s4, s5, s6, s7, s8, s9, s10⟩; go_simp; with_reducible rfl)
  refine oon_ 5 (some 9) rfl rfl (one_of HT_.out (by kernel_rfl)) (fun K hK => ?_)
  refine gos_ Try.func94 (bound_plain_last.calls B3 B4 B5 B6 B7 B8 B9 Ba Bb Bc _ _ B2 _ _ (Kd.C_below Bf.out HB.out) Bg.out A2.out) ?_
  rintro e w8 ⟨rfl, hb⟩
  refine ⟨_, rfl, ?_⟩
  replace B0 := bkb_ B0 hb
  replace HB := bst_ HB hb
  (try clear hb)
  (try clear hb2)
  (try clear hk)
  (try clear hi)
  refine hK.out _ _ (cells_11 B0.out) (fun hHeld => ?_)
  clear hK K
  refine nor_ 9 ?_
  refine pur_ 6 (some 10) rfl rfl (any_of HT_.out (by kernel_rfl)) ?_
  refine pur_ 7 (some 3) rfl rfl (any_of HT_.out (by kernel_rfl)) ?_
  refine done_ (done_of HT_.out (by kernel_rfl)) ?_
  try go_wp2
  replace B0 := am_ (blk_drew B0.out)
  replace HB := am_ (below_drew1 HB.out)
  refine start_ (n := 22) (S := fun w' => ce_ w' B1 0 (.int .i64 B3) ∧ ce_ w' B1 1 (.int .i64 B4) ∧ ce_ w' B1 2 (.int .i64 B5) ∧ ce_ w' B1 3 (.int .i64 B6) ∧ ce_ w' B1 4 (.int .i64 B7) ∧ ce_ w' B1 5 (.int .i64 B8) ∧ ce_ w' B1 6 (.int .i64 B9) ∧ ce_ w' B1 7 (.int .i64 Ba) ∧ ce_ w' B1 8 (.int .i64 Bb) ∧ ce_ w' B1 9 (.int .i64 Bc) ∧ ce_ w' B1 10 (.slice Bd B2.length Be)) (ds := []) #[false, false, false, false, false, false, false, false, false, false, false, false, false, false, false, false, false, false, false, false, false, false] (by kernel_rfl) rfl rfl ⟨(blk_cell B0.out 0).trans rfl, (blk_cell B0.out 1).trans rfl, (blk_cell B0.out 2).trans rfl, (blk_cell B0.out 3).trans rfl, (blk_cell B0.out 4).trans rfl, (blk_cell B0.out 5).trans rfl, (blk_cell B0.out 6).trans rfl, (blk_cell B0.out 7).trans rfl, (blk_cell B0.out 8).trans rfl, (blk_cell B0.out 9).trans rfl, (blk_cell B0.out 10).trans rfl⟩ (fun hHeld => ?_); refine with_tabW bound_plain_guard.tab2 bound_plain_guard.bits2 (fun HT_ HW_ => ?_)
  generalize w8.drew = w9 at B0 HB hHeld ⊢
  refine pur_ 0 (some 11) rfl rfl (any_of HT_.out (by kernel_rfl)) ?_
  refine pur_ 8 (some 19) rfl rfl (any_of HT_.out (by kernel_rfl)) ?_
  refine pur_ 9 (some 20) rfl rfl (any_of HT_.out (by kernel_rfl)) ?_
  refine pur_ 12 (some 23) rfl rfl (any_of HT_.out (by kernel_rfl)) ?_
  refine pur_ 13 (some 24) rfl rfl (any_of HT_.out (by kernel_rfl)) ?_
  refine pur_ 16 (some 27) rfl rfl (any_of HT_.out (by kernel_rfl)) ?_
  refine pur_ 17 (some 28) rfl rfl (any_of HT_.out (by kernel_rfl)) ?_
  refine tak_ 1 (some 12) rfl rfl (take_ofW HT_.out HW_.out (by kernel_rfl)) hHeld ?_ (by rintro w' ⟨s0, s1, s2, s3, s4, s5, s6, s7, s8, s9, s10⟩; go_simp; with_reducible rfl)
  refine tak_ 5 (some 16) rfl rfl (take_ofW HT_.out HW_.out (by kernel_rfl)) hHeld ?_ (by rintro w' ⟨s0, s1, s2, s3, s4, s5, s6, s7, s8, s9, s10⟩; go_simp; with_reducible rfl)
  refine tak_ 10 (some 21) rfl rfl (take_ofW HT_.out HW_.out (by kernel_rfl)) hHeld ?_ (by rintro w' ⟨s0, s1, s2, s3, s4, s5, s6, s7, s8, s9, s10⟩; go_simp; with_reducible rfl)
  refine tak_ 14 (some 25) rfl rfl (take_ofW HT_.out HW_.out (by kernel_rfl)) hHeld ?_ (by rintro w' ⟨s0, s1, s2, s3, s4, s5, s6, s7, s8, s9, s10⟩; go_simp; with_reducible rfl)
  refine pur_ 15 (some 26) rfl rfl (any_of HT_.out (by kernel_rfl)) ?_
  refine tak_ 18 (some 29) rfl rfl (take_ofW HT_.out HW_.out (by kernel_rfl)) hHeld ?_ (by rintro w' ⟨s0, s1, s2, s3, s4, s5, s6, s7, s8, s9, s10⟩; go_simp; with_reducible rfl)
  refine pur_ 19 (some 30) rfl rfl (any_of HT_.out (by kernel_rfl)) ?_
  refine oon_ 2 (some 13) rfl rfl (one_of HT_.out (by kernel_rfl)) (fun K hK => ?_)
  refine gos_ Try.func95 (bound_plain_slowest.calls B3 B4 B5 B6 B7 B8 B9 Ba Bb Bc _ _ B2 _ _ (Kd.C_below Bf.out HB.out) Bg.out A3.out) ?_
  rintro e w10 ⟨rfl, hb⟩
  refine ⟨_, rfl, ?_⟩
  replace B0 := bkb_ B0 hb
  replace HB := bst_ HB hb
  (try clear hb)
  (try clear hb2)
  (try clear hk)
  (try clear hi)
  refine hK.out _ _ (cells_11 B0.out) (fun hHeld => ?_)
  clear hK K
  refine nor_ 13 ?_
  refine pur_ 3 (some 14) rfl rfl (any_of HT_.out (by kernel_rfl)) ?_
  refine pur_ 4 (some 15) rfl rfl (any_of HT_.out (by kernel_rfl)) ?_
  refine oon_ 6 (some 17) rfl rfl (one_of HT_.out (by kernel_rfl)) (fun K hK => ?_)
  refine gos_ Try.func95 (bound_plain_slowest.calls B3 B4 B5 B6 B7 B8 B9 Ba Bb Bc _ _ B2 _ _ (Kd.C_below Bf.out HB.out) Bg.out A4.out) ?_
  rintro e w11 ⟨rfl, hb⟩
  refine ⟨_, rfl, ?_⟩
  replace B0 := bkb_ B0 hb
  replace HB := bst_ HB hb
  (try clear hb)
  (try clear hb2)
  (try clear hk)
  (try clear hi)
  refine hK.out _ _ (cells_11 B0.out) (fun hHeld => ?_)
  clear hK K
  refine nor_ 17 ?_
  refine pur_ 7 (some 18) rfl rfl (any_of HT_.out (by kernel_rfl)) ?_
  refine pur_ 11 (some 22) rfl rfl (any_of HT_.out (by kernel_rfl)) ?_
  refine pur_ 20 (some 31) rfl rfl (any_of HT_.out (by kernel_rfl)) ?_
  refine pur_ 21 (some 2) rfl rfl (any_of HT_.out (by kernel_rfl)) ?_
  refine done_ (done_of HT_.out (by kernel_rfl)) ?_
  try go_wp2
  go_ret
  exact ⟨by first | rfl | (simp [*] <;> rfl), by repeat (first | (with_reducible first | exact HB.out | apply ba_ | apply bn_ | apply bd_ | refine bs_ ?_ Bl.out) | exact HB.out)⟩
def bound_sound_parts.f (B3 B4 B5 B6 B7 B8 B9 B1 Ba Bb : Int) (B2 : List Int) (B0 : Int) : Option (Bool) := some (decide (B1 > (wrap64 (2 * B0))))
set_option maxHeartbeats 8000000 in
set_option maxRecDepth 100000 in
theorem bound_sound_parts.calls (B8 B9 Ba Bb Bc Bd Be B7 Bf Bg : Int) (B2 : Option Addr) (B3 : Nat) (B0 : List Int) (B1 : Int) (r : Bool) (w : World) (B4 : Kd.C (Kd.int .i64) w B2 B0.length B0) (B5 : B0.length ≤ B3) (h : bound_sound_parts.f B8 B9 Ba Bb Bc Bd Be B7 Bf Bg B0 B1 = some r) :
  Calls Try.prog 64 #[.agg #[.int .i64 B8, .int .i64 B9, .int .i64 Ba, .int .i64 Bb, .int .i64 Bc, .int .i64 Bd, .int .i64 Be, .int .i64 B7, .int .i64 Bf, .int .i64 Bg, .slice B2 B0.length B3, .int .i64 B1]] w fun e w' => e = .returned (.bool r) ∧ Below w.heap.size w w' := by
 have Bk := am_ B4
 have Bl := am_ B5
 clear B4 B5
 have HB := am_ (Below.refl w.heap.size w)
 have H : (some (decide (B7 > (wrap64 (2 * B1))))) = some r := h
 clear h
 obtain rfl := Option.some.inj H
 go_enter Try.func64, Try.ntmps64
 go_wp2_with (first | ((with_reducible refine gate_load (t := 72) (x := .tmp 1) rfl ?_); refine lrg_ 72 (.tmp 1) Bh 72 (by exact B6.out) Try.underlying72 ?_) | ((with_reducible refine gate_dst (N := 1) rfl ?_); refine bxe_ 1 72 #[.int .i64 B8, .int .i64 B9, .int .i64 Ba, .int .i64 Bb, .int .i64 Bc, .int .i64 Bd, .int .i64 Be, .int .i64 B7, .int .i64 Bf, .int .i64 Bg, .slice B2 B0.length B3, .int .i64 B1] ?_; intro Bh hg w2 hbox hb; have B6 := am_ (hbox); have Bi := gwk_ HB hg; have Bj := Bi; replace HB := bst_ HB hb; clear hb hbox hg; have Bm := cells_12 B6.out; have Bn := frozen_12 B6.out))
 go_ret
 exact ⟨by first | rfl | (simp [*] <;> rfl), by repeat (first | (with_reducible first | exact HB.out | apply ba_ | apply bn_ | apply bd_ | refine bs_ ?_ Bj.out) | exact HB.out)⟩
end Go.Proofs.Ythdoghhmooodjaa.Gn
