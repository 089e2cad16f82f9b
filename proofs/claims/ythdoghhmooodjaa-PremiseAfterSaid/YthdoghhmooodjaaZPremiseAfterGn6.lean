import Derived.Test.YthdoghhmooodjaaZPremiseAfterGn0
import Derived.Test.YthdoghhmooodjaaZPremiseAfterGn1
import Derived.Test.YthdoghhmooodjaaZPremiseAfterGn3
import Derived.Test.YthdoghhmooodjaaZPremiseAfterGn4
import Derived.Test.YthdoghhmooodjaaZPremiseAfterGn5
namespace Go.Proofs.Ythdoghhmooodjaa.Gn
open Go.RowKit Go.Proofs.YthdoghhmooodjaaW.PrintWords Go.Proofs.YthdoghhmooodjaaW.PrintLast Go.Proofs.YthdoghhmooodjaaW.PrintMore
attribute [local go_sem] max2_int min2_int max_two min_two max_three min_three max_four min_four   -- for this text's walks alone
set_option linter.unusedVariables false
set_option linter.unusedSimpArgs false
def bound_Right.f (k : Nat) (B1 B2 B3 B4 B5 B6 B7 B8 B9 Ba : Int) (B0 : List Int) : Option (Int) := (bound_of.f k B1 B2 B3 B4 B5 B6 B7 B8 B9 Ba B0).bind fun Bc => (if Bc = true then ((bound_plain_guard.f B1 B2 B3 B4 B5 B6 B7 B8 B9 Ba B0).bind fun Bb => ((bound_sound_parts.f B1 B2 B3 B4 B5 B6 B7 B8 B9 Ba B0 Bb).bind fun Bd => (if Bd = true then ((bound_sound_ends.f B1 B2 B3 B4 B5 B6 B7 B8 B9 Ba B0 Bb).bind fun Be => (if Be = true then ((bound_sound_turns.f B1 B2 B3 B4 B5 B6 B7 B8 B9 Ba B0 Bb).bind fun Bf => (if Bf = true then (some 0) else (some 8))) else (some 8))) else (some 8)))) else ((conf_Plain.f k B1 B2 B3 B4 B5 B6 B7 B8 B9 Ba B0).bind fun Bg => (some Bg)))
theorem bound_Right.mono : ∀ a0 a1 a2 a3 a4 a5 a6 a7 a8 a9 B0 k, LeO (bound_Right.f k a0 a1 a2 a3 a4 a5 a6 a7 a8 a9 B0) (bound_Right.f (k + 1) a0 a1 a2 a3 a4 a5 a6 a7 a8 a9 B0) := by
 intro a0 a1 a2 a3 a4 a5 a6 a7 a8 a9 B0 k
 unfold bound_Right.f
 repeat' first
   | (with_reducible exact bound_of.mono _ _ _ _ _ _ _ _ _ _ _ _)
   | (with_reducible exact conf_Plain.mono _ _ _ _ _ _ _ _ _ _ _ _)
   | (with_reducible exact LeO.refl _)
   | (with_reducible exact LeO.none _)
   | (with_reducible refine LeO.ite ?_ ?_)
   | (with_reducible refine LeO.bind ?_ (fun _ => ?_))
   | exact bound_of.mono _ _ _ _ _ _ _ _ _ _ _ _
   | exact conf_Plain.mono _ _ _ _ _ _ _ _ _ _ _ _
   | exact LeO.none _
   | refine LeO.ite ?_ ?_
   | refine LeO.bind ?_ (fun _ => ?_)
set_option maxHeartbeats 8000000 in
set_option maxRecDepth 100000 in
theorem bound_Right.calls (k : Nat) (B6 B7 Ba Bb Bc Bf Bg Bh Bi Bl : Int) (Bj : Option Addr) (Bk : Nat) (B8 : List Int) (r : Int) (w : World) (Bw : Kd.C (Kd.int .i64) w Bj B8.length B8) (Bx : B8.length ≤ Bk) (h : bound_Right.f k B6 B7 Ba Bb Bc Bf Bg Bh Bi Bl B8 = some r) :
  Calls Try.prog 37 #[.agg #[.int .i64 B6, .int .i64 B7, .int .i64 Ba, .int .i64 Bb, .int .i64 Bc, .int .i64 Bf, .int .i64 Bg, .int .i64 Bh, .int .i64 Bi, .int .i64 Bl, .slice Bj B8.length Bk]] w fun e w' => e = .returned (.int .i64 r) ∧ Below w.heap.size w w' := by
 have Jw := Try.underlying24
 have Jx := Try.underlying68
 have Jy := Try.underlying72
 have Bo := am_ Bw
 have Bp := am_ Bx
 clear Bw Bx
 have HB := am_ (Below.refl w.heap.size w)
 have H := h
 unfold bound_Right.f at H
 clear h
 obtain ⟨Gh, A2, H⟩ := bes_ H
 try dsimp only at H
 by_cases c3 : Gh = true
 ·subst c3
  rw [if_pos rfl] at H
  obtain ⟨Bt, A4, H⟩ := bes_ H
  try dsimp only at H
  obtain ⟨Gi, A5, H⟩ := bes_ H
  try dsimp only at H
  by_cases c6 : Gi = true
  subst c6
  rw [if_pos rfl] at H
  obtain ⟨Gj, A7, H⟩ := bes_ H
  try dsimp only at H
  by_cases c8 : Gj = true
  subst c8
  rw [if_pos rfl] at H
  obtain ⟨Gk, A9, H⟩ := bes_ H
  try dsimp only at H
  by_cases Dg : Gk = true
  subst Dg
  rw [if_pos rfl] at H
  obtain rfl := Option.some.inj H
  rotate_left
  replace Dg := Bool.eq_false_iff.mpr Dg
  subst Dg
  rw [if_neg (show ¬ (false = true) by decide)] at H
  obtain rfl := Option.some.inj H
  rotate_left
  replace c8 := Bool.eq_false_iff.mpr c8
  subst c8
  rw [if_neg (show ¬ (false = true) by decide)] at H
  obtain rfl := Option.some.inj H
  rotate_left
  replace c6 := Bool.eq_false_iff.mpr c6
  subst c6
  rw [if_neg (show ¬ (false = true) by decide)] at H
  obtain rfl := Option.some.inj H
  rotate_left
  all_goals
   go_enter Try.func37, Try.ntmps37
   try go_wp2_with (first | ((with_reducible refine gate_dst (N := 1) rfl ?_); refine bxe_ 1 24 #[.int .i64 B6, .int .i64 B7, .int .i64 Ba, .int .i64 Bb, .int .i64 Bc, .int .i64 Bf, .int .i64 Bg, .int .i64 Bh, .int .i64 Bi, .int .i64 Bl, .slice Bj B8.length Bk] ?_; intro Bs hg w11 hbox hb; have B4 := am_ (hbox); have By := gwk_ HB hg; have Bq := By; replace HB := bst_ HB hb; clear hb hbox hg; have Gv := cells_11 B4.out; have Gw := frozen_11 B4.out) | ((with_reducible refine gate_callee (f := 62) rfl ?_); refine gom_ (some 8) Try.func62 (bound_of.calls k B6 B7 Ba Bb Bc Bf Bg Bh Bi Bl _ _ B8 _ _ (Kd.C_below Bo.out HB.out) Bp.out A2.out) ?_; rintro e w13 ⟨rfl, hb⟩; refine ⟨_, rfl, ?_⟩; replace B4 := bkb_ B4 hb; replace HB := bst_ HB hb; (try clear hb)) | ((with_reducible refine gate_dst (N := 3) rfl ?_); refine bxe_ 3 68 #[.int .i64 0, .int .i64 0, .int .i64 0, .int .i64 0, .int .i64 0, .int .i64 0, .int .i64 0, .int .i64 0, .int .i64 0, .int .i64 0, .slice none 0 0] ?_; intro B9 hg w14 hbox hb; have B3 := am_ (hbox); have Bz := gwk_ HB hg; have Bm := Bz; replace HB := bst_ HB hb; have Bn := nbk_ B4 hg; have Bu := nbs_ Bn; replace B4 := bkb_ B4 hb; clear hb hbox hg) | ((with_reducible refine gate_store (t := 68) (p := 3) rfl ?_); refine row_store_event (t := 68) (p := 3) (v := ?vo_w15) ?hgd ?ho ?hn B9 #[.int .i64 B6, .int .i64 B7, .int .i64 Ba, .int .i64 Bb, .int .i64 Bc, .int .i64 Bf, .int .i64 Bg, .int .i64 Bh, .int .i64 Bi, .int .i64 Bl, .slice Bj B8.length Bk] ?hx ?hy 68 #[.int .i64 0, .int .i64 0, .int .i64 0, .int .i64 0, .int .i64 0, .int .i64 0, .int .i64 0, .int .i64 0, .int .i64 0, .int .i64 0, .slice none 0 0] ?hg ?hi ?hold ?h1 ?_; (case hgd => rfl); (case ho => rfl); (case hn => rfl); (case hx => rfl); (case hy => rfl); (case hg => exact (by (with_reducible repeat (first | apply kn_ | apply kd_ | apply ka_)); exact B3.out)); (case hi => kernel_rfl); (case hold => rfl); (case h1 => (first | kernel_rfl | simp [Value.oneCell'])); intro w15 hw; have D0 : Aside0 (w15.heap[Bs]? = some (.cells #[.int .i64 B6, .int .i64 B7, .int .i64 Ba, .int .i64 Bb, .int .i64 Bc, .int .i64 Bf, .int .i64 Bg, .int .i64 Bh, .int .i64 Bi, .int .i64 Bl, .slice Bj B8.length Bk] 24 (0, 0))) := ⟨(by rw [hw]; exact (by (with_reducible repeat (first | apply kn_ | apply kd_ | apply ka_)); refine blk_farc ?_ Bn.out; (with_reducible repeat (first | apply kn_ | apply kd_ | apply ka_)); exact B4.out))⟩; have D1 : Aside0 (w15.heap[B9]? = some (.cells #[.int .i64 B6, .int .i64 B7, .int .i64 Ba, .int .i64 Bb, .int .i64 Bc, .int .i64 Bf, .int .i64 Bg, .int .i64 Bh, .int .i64 Bi, .int .i64 Bl, .slice Bj B8.length Bk] 68 (0, 0))) := ⟨(by rw [hw]; exact (by (with_reducible repeat (first | apply kn_ | apply kd_ | apply ka_)); refine setRow_heap _ _ #[.int .i64 0, .int .i64 0, .int .i64 0, .int .i64 0, .int .i64 0, .int .i64 0, .int .i64 0, .int .i64 0, .int .i64 0, .int .i64 0, .slice none 0 0] _ 68 (0, 0) ?_; (with_reducible repeat (first | apply kn_ | apply kd_ | apply ka_)); exact B3.out))⟩; have D2 : Aside0 (Below w.heap.size w w15) := ⟨(by rw [hw]; exact (by repeat (first | (with_reducible first | exact HB.out | refine below_setc ?_ Bm.out | apply below_alloc | apply pw_below_drewN | apply below_drew1 | refine bs_ ?_ Bq.out | refine bs_ ?_ Bm.out) | exact HB.out)))⟩; clear hw; clear B4; clear B3; clear HB; have B4 := D0; have B3 := D1; have HB := D2; clear D0 D1 D2))
   replace B4 := am_ (blk_drew B4.out)
   replace B3 := am_ (blk_drew B3.out)
   replace HB := am_ (below_drew1 HB.out)
   refine start_ (n := 6) (S := fun w' => ce_ w' B9 0 (.int .i64 B6) ∧ ce_ w' B9 1 (.int .i64 B7) ∧ ce_ w' B9 2 (.int .i64 Ba) ∧ ce_ w' B9 3 (.int .i64 Bb) ∧ ce_ w' B9 4 (.int .i64 Bc) ∧ ce_ w' B9 5 (.int .i64 Bf) ∧ ce_ w' B9 6 (.int .i64 Bg) ∧ ce_ w' B9 7 (.int .i64 Bh) ∧ ce_ w' B9 8 (.int .i64 Bi) ∧ ce_ w' B9 9 (.int .i64 Bl) ∧ ce_ w' B9 10 (.slice Bj B8.length Bk)) (ds := []) #[false, false, false, false, false, false] (by kernel_rfl) rfl rfl ⟨(blk_cell B3.out 0).trans rfl, (blk_cell B3.out 1).trans rfl, (blk_cell B3.out 2).trans rfl, (blk_cell B3.out 3).trans rfl, (blk_cell B3.out 4).trans rfl, (blk_cell B3.out 5).trans rfl, (blk_cell B3.out 6).trans rfl, (blk_cell B3.out 7).trans rfl, (blk_cell B3.out 8).trans rfl, (blk_cell B3.out 9).trans rfl, (blk_cell B3.out 10).trans rfl⟩ (fun hHeld => ?_)
   generalize w15.drew = w16 at B4 B3 HB hHeld ⊢
   refine tak_ 0 (some 15) rfl rfl (by kernel_rfl) hHeld ?_ (by rintro w' ⟨s0, s1, s2, s3, s4, s5, s6, s7, s8, s9, s10⟩; go_simp; with_reducible rfl)
   refine tak_ 1 (some 16) rfl rfl (by kernel_rfl) hHeld ?_ (by rintro w' ⟨s0, s1, s2, s3, s4, s5, s6, s7, s8, s9, s10⟩; go_simp; with_reducible rfl)
   refine join_ (σ := Nat) 1 #[true, true, true, true, true, false] (fun s_ => [(17, .int .i64 Bt), (5, .pointer (some ⟨s_, 0, none⟩)), (18, .agg #[.int .i64 B6, .int .i64 B7, .int .i64 Ba, .int .i64 Bb, .int .i64 Bc, .int .i64 Bf, .int .i64 Bg, .int .i64 Bh, .int .i64 Bi, .int .i64 Bl, .slice Bj B8.length Bk, .int .i64 Bt])]) (fun s_ w' => (ce_ w' B9 0 (.int .i64 B6) ∧ ce_ w' B9 1 (.int .i64 B7) ∧ ce_ w' B9 2 (.int .i64 Ba) ∧ ce_ w' B9 3 (.int .i64 Bb) ∧ ce_ w' B9 4 (.int .i64 Bc) ∧ ce_ w' B9 5 (.int .i64 Bf) ∧ ce_ w' B9 6 (.int .i64 Bg) ∧ ce_ w' B9 7 (.int .i64 Bh) ∧ ce_ w' B9 8 (.int .i64 Bi) ∧ ce_ w' B9 9 (.int .i64 Bl) ∧ ce_ w' B9 10 (.slice Bj B8.length Bk)) ∧ (w'.heap[Bs]? = some (.cells #[.int .i64 B6, .int .i64 B7, .int .i64 Ba, .int .i64 Bb, .int .i64 Bc, .int .i64 Bf, .int .i64 Bg, .int .i64 Bh, .int .i64 Bi, .int .i64 Bl, .slice Bj B8.length Bk] 24 (0, 0))) ∧ (w'.heap[B9]? = some (.cells #[.int .i64 B6, .int .i64 B7, .int .i64 Ba, .int .i64 Bb, .int .i64 Bc, .int .i64 Bf, .int .i64 Bg, .int .i64 Bh, .int .i64 Bi, .int .i64 Bl, .slice Bj B8.length Bk] 68 (0, 0))) ∧ (w'.heap[s_]? = some (.cells #[.int .i64 0, .int .i64 0, .int .i64 0, .int .i64 0, .int .i64 0, .int .i64 0, .int .i64 0, .int .i64 0, .int .i64 0, .int .i64 0, .slice none 0 0, .int .i64 0] 72 (0, 0))) ∧ (w.heap.size ≤ s_) ∧ (w.heap.size ≤ s_) ∧ (Bs ≠ s_) ∧ (s_ ≠ Bs) ∧ (B9 ≠ s_) ∧ (s_ ≠ B9) ∧ (Below w.heap.size w w')) ?_ ?_
   rotate_left
   ·intro hCont
    refine two_ (i := 2) (j := 4) (Ni := some 17) (Nj := some 5) #[true, true, true, false, false, false] #[true, true, false, false, true, false] rfl rfl rfl rfl (by kernel_rfl) (by decide) (by decide) (fun K hK => ?_) (fun K hK => ?_)
    ·skip
     refine gos_ Try.func63 (bound_plain_guard.calls B6 B7 Ba Bb Bc Bf Bg Bh Bi Bl _ _ B8 _ _ (Kd.C_below Bo.out HB.out) Bp.out A4.out) ?_
     rintro e w17 ⟨rfl, hb⟩
     refine ⟨_, rfl, ?_⟩
     replace B4 := bkb_ B4 hb
     replace B3 := bkb_ B3 hb
     replace HB := bst_ HB hb
     (try clear hb)
     (try clear hb2)
     (try clear hk)
     (try clear hi)
     refine hK.out _ _ (cells_11 B3.out) (fun hHeld => ?_)
     clear hK K
     refine nor_ 17 ?_
     refine pur_ 3 (some 18) rfl rfl (by kernel_rfl) ?_
     refine oon_ 4 (some 5) rfl rfl (by kernel_rfl) (fun K hK => ?_)
     refine box_step ?hg (N := 5) ?hd (cs := #[.int .i64 0, .int .i64 0, .int .i64 0, .int .i64 0, .int .i64 0, .int .i64 0, .int .i64 0, .int .i64 0, .int .i64 0, .int .i64 0, .slice none 0 0, .int .i64 0]) (t := 72) ?hr ?_; (case hd => rfl); (case hg => rfl); (case hr => first | (go_simp; done) | (go_simp; rfl))
     intro B2 hg w18 hbox hb
     have B0 := am_ (hbox)
     have Bv := gwk_ HB hg
     have Br := Bv
     replace HB := bst_ HB hb
     have B5 := nbk_ B4 hg
     have Bd := nbs_ B5
     replace B4 := bkb_ B4 hb
     have B1 := nbk_ B3 hg
     have Be := nbs_ B1
     replace B3 := bkb_ B3 hb
     clear hb hbox hg
     refine hK.out _ _ (cells_11 B3.out) (fun hHeld => ?_)
     clear hK K
     refine nor_ 5 ?_
     exact norm_ (by simp only [putAll, Act.put, zs_]) (hCont (B2) _ ⟨hHeld, (by (with_reducible repeat (first | apply kn_ | apply kd_ | apply ka_)); exact B4.out), (by (with_reducible repeat (first | apply kn_ | apply kd_ | apply ka_)); exact B3.out), (by (with_reducible repeat (first | apply kn_ | apply kd_ | apply ka_)); exact B0.out), Bv.out, Br.out, B5.out, Bd.out, B1.out, Be.out, (by repeat (first | (with_reducible first | exact HB.out | apply ba_ | apply bn_ | apply bd_ | refine bs_ ?_ Bq.out | refine bs_ ?_ Bm.out | refine bs_ ?_ Br.out) | exact HB.out))⟩)
    ·skip
     refine box_step ?hg (N := 5) ?hd (cs := #[.int .i64 0, .int .i64 0, .int .i64 0, .int .i64 0, .int .i64 0, .int .i64 0, .int .i64 0, .int .i64 0, .int .i64 0, .int .i64 0, .slice none 0 0, .int .i64 0]) (t := 72) ?hr ?_; (case hd => rfl); (case hg => rfl); (case hr => first | (go_simp; done) | (go_simp; rfl))
     intro B2 hg w17 hbox hb
     have B0 := am_ (hbox)
     have Bv := gwk_ HB hg
     have Br := Bv
     replace HB := bst_ HB hb
     have B5 := nbk_ B4 hg
     have Bd := nbs_ B5
     replace B4 := bkb_ B4 hb
     have B1 := nbk_ B3 hg
     have Be := nbs_ B1
     replace B3 := bkb_ B3 hb
     clear hb hbox hg
     refine hK.out _ _ (cells_11 B3.out) (fun hHeld => ?_)
     clear hK K
     refine nor_ 5 ?_
     refine oon_ 2 (some 17) rfl rfl (by kernel_rfl) (fun K hK => ?_)
     refine gos_ Try.func63 (bound_plain_guard.calls B6 B7 Ba Bb Bc Bf Bg Bh Bi Bl _ _ B8 _ _ (Kd.C_below Bo.out HB.out) Bp.out A4.out) ?_
     rintro e w18 ⟨rfl, hb⟩
     refine ⟨_, rfl, ?_⟩
     replace B4 := bkb_ B4 hb
     replace B3 := bkb_ B3 hb
     replace B0 := bkb_ B0 hb
     replace HB := bst_ HB hb
     (try clear hb)
     (try clear hb2)
     (try clear hk)
     (try clear hi)
     refine hK.out _ _ (cells_11 B3.out) (fun hHeld => ?_)
     clear hK K
     refine nor_ 17 ?_
     refine pur_ 3 (some 18) rfl rfl (by kernel_rfl) ?_
     exact norm_ (by simp only [putAll, Act.put, zs_]) (hCont (B2) _ ⟨hHeld, (by (with_reducible repeat (first | apply kn_ | apply kd_ | apply ka_)); exact B4.out), (by (with_reducible repeat (first | apply kn_ | apply kd_ | apply ka_)); exact B3.out), (by (with_reducible repeat (first | apply kn_ | apply kd_ | apply ka_)); exact B0.out), Bv.out, Br.out, B5.out, Bd.out, B1.out, Be.out, (by repeat (first | (with_reducible first | exact HB.out | apply ba_ | apply bn_ | apply bd_ | refine bs_ ?_ Bq.out | refine bs_ ?_ Bm.out | refine bs_ ?_ Br.out) | exact HB.out))⟩)
   rintro B2 w19 ⟨hS_, Gx, Gy, Gz, J0, J1, J2, J3, J4, J5, J6⟩
   have D0 : Aside0 (w19.heap[Bs]? = some (.cells #[.int .i64 B6, .int .i64 B7, .int .i64 Ba, .int .i64 Bb, .int .i64 Bc, .int .i64 Bf, .int .i64 Bg, .int .i64 Bh, .int .i64 Bi, .int .i64 Bl, .slice Bj B8.length Bk] 24 (0, 0))) := ⟨Gx⟩
   have D1 : Aside0 (w19.heap[B9]? = some (.cells #[.int .i64 B6, .int .i64 B7, .int .i64 Ba, .int .i64 Bb, .int .i64 Bc, .int .i64 Bf, .int .i64 Bg, .int .i64 Bh, .int .i64 Bi, .int .i64 Bl, .slice Bj B8.length Bk] 68 (0, 0))) := ⟨Gy⟩
   have D2 : Aside0 (w19.heap[B2]? = some (.cells #[.int .i64 0, .int .i64 0, .int .i64 0, .int .i64 0, .int .i64 0, .int .i64 0, .int .i64 0, .int .i64 0, .int .i64 0, .int .i64 0, .slice none 0 0, .int .i64 0] 72 (0, 0))) := ⟨Gz⟩
   have J7 : Aside0 (w.heap.size ≤ B2) := ⟨J0⟩
   have J8 : Aside0 (w.heap.size ≤ B2) := ⟨J1⟩
   have J9 : Aside0 (Bs ≠ B2) := ⟨J2⟩
   have Ja : Aside0 (B2 ≠ Bs) := ⟨J3⟩
   have Jb : Aside0 (B9 ≠ B2) := ⟨J4⟩
   have Jc : Aside0 (B2 ≠ B9) := ⟨J5⟩
   have Jd : Aside0 (Below w.heap.size w w19) := ⟨J6⟩
   clear B4
   clear B3
   clear HB
   clear Gx Gy Gz J0 J1 J2 J3 J4 J5 J6
   have B4 := D0
   have B3 := D1
   have B0 := D2
   have Bv := J7
   have Br := J8
   have B5 := J9
   have Bd := Ja
   have B1 := Jb
   have Be := Jc
   have HB := Jd
   clear D0 D1 D2 J7 J8 J9 Ja Jb Jc Jd
   have hHeld : ce_ w19 B9 0 (.int .i64 B6) ∧ ce_ w19 B9 1 (.int .i64 B7) ∧ ce_ w19 B9 2 (.int .i64 Ba) ∧ ce_ w19 B9 3 (.int .i64 Bb) ∧ ce_ w19 B9 4 (.int .i64 Bc) ∧ ce_ w19 B9 5 (.int .i64 Bf) ∧ ce_ w19 B9 6 (.int .i64 Bg) ∧ ce_ w19 B9 7 (.int .i64 Bh) ∧ ce_ w19 B9 8 (.int .i64 Bi) ∧ ce_ w19 B9 9 (.int .i64 Bl) ∧ ce_ w19 B9 10 (.slice Bj B8.length Bk) := hS_
   refine norm_ (a' := ?_) ?_ ?_
   rotate_left
   ·simp only [putAll, Act.put, zs_]
    rfl
   refine oon_ 5 none rfl rfl (by kernel_rfl) (fun K hK => ?_)
   have Jz : w19.cell? ⟨B2, 0, none⟩ = some (.int .i64 0) := (blk_cell B0.out 0).trans rfl
   have Je := blk_frozen B0.out 0
   have Dh := B5.out
   have Di := B1.out
   have Dj := Bd.out
   have Dk := Be.out
   have L0 : w19.cell? ⟨B2, 1, none⟩ = some (.int .i64 0) := (blk_cell B0.out 1).trans rfl
   have Jf := blk_frozen B0.out 1
   have Dl := B5.out
   have Dm := B1.out
   have Dn := Bd.out
   have Do := Be.out
   have L1 : w19.cell? ⟨B2, 2, none⟩ = some (.int .i64 0) := (blk_cell B0.out 2).trans rfl
   have Jg := blk_frozen B0.out 2
   have Dp := B5.out
   have Dq := B1.out
   have Dr := Bd.out
   have Ds := Be.out
   have L2 : w19.cell? ⟨B2, 3, none⟩ = some (.int .i64 0) := (blk_cell B0.out 3).trans rfl
   have Jh := blk_frozen B0.out 3
   have Dt := B5.out
   have Du := B1.out
   have Dv := Bd.out
   have Dw := Be.out
   have L3 : w19.cell? ⟨B2, 4, none⟩ = some (.int .i64 0) := (blk_cell B0.out 4).trans rfl
   have Ji := blk_frozen B0.out 4
   have Dx := B5.out
   have Dy := B1.out
   have Dz := Bd.out
   have E0 := Be.out
   have L4 : w19.cell? ⟨B2, 5, none⟩ = some (.int .i64 0) := (blk_cell B0.out 5).trans rfl
   have Jj := blk_frozen B0.out 5
   have E1 := B5.out
   have E2 := B1.out
   have E3 := Bd.out
   have E4 := Be.out
   have L5 : w19.cell? ⟨B2, 6, none⟩ = some (.int .i64 0) := (blk_cell B0.out 6).trans rfl
   have Jk := blk_frozen B0.out 6
   have E5 := B5.out
   have E6 := B1.out
   have E7 := Bd.out
   have E8 := Be.out
   have L6 : w19.cell? ⟨B2, 7, none⟩ = some (.int .i64 0) := (blk_cell B0.out 7).trans rfl
   have Jl := blk_frozen B0.out 7
   have E9 := B5.out
   have Ea := B1.out
   have Eb := Bd.out
   have Ec := Be.out
   have L7 : w19.cell? ⟨B2, 8, none⟩ = some (.int .i64 0) := (blk_cell B0.out 8).trans rfl
   have Jm := blk_frozen B0.out 8
   have Ed := B5.out
   have Ee := B1.out
   have Ef := Bd.out
   have Eg := Be.out
   have L8 : w19.cell? ⟨B2, 9, none⟩ = some (.int .i64 0) := (blk_cell B0.out 9).trans rfl
   have Jn := blk_frozen B0.out 9
   have Eh := B5.out
   have Ei := B1.out
   have Ej := Bd.out
   have Ek := Be.out
   have L9 : w19.cell? ⟨B2, 10, none⟩ = some (.slice none 0 0) := (blk_cell B0.out 10).trans rfl
   have Jo := blk_frozen B0.out 10
   have El := B5.out
   have Em := B1.out
   have En := Bd.out
   have Eo := Be.out
   have La : w19.cell? ⟨B2, 11, none⟩ = some (.int .i64 0) := (blk_cell B0.out 11).trans rfl
   have Jp := blk_frozen B0.out 11
   have Ep := B5.out
   have Eq := B1.out
   have Er := Bd.out
   have Es := Be.out
   refine skip_ (w1 := ?_) (by rfl) rfl ?_ ?_
   rotate_left
   ·go_simp
    rfl
   refine hK.out _ _ (cells_11 (blk_far (p := ⟨B2, _, none⟩) (blk_far (p := ⟨B2, _, none⟩) (blk_far (p := ⟨B2, _, none⟩) (blk_far (p := ⟨B2, _, none⟩) (blk_far (p := ⟨B2, _, none⟩) (blk_far (p := ⟨B2, _, none⟩) (blk_far (p := ⟨B2, _, none⟩) (blk_far (p := ⟨B2, _, none⟩) (blk_far (p := ⟨B2, _, none⟩) (blk_far (p := ⟨B2, _, none⟩) (blk_far (p := ⟨B2, _, none⟩) (blk_far (p := ⟨B2, _, none⟩) B3.out B1.out _) B1.out _) B1.out _) B1.out _) B1.out _) B1.out _) B1.out _) B1.out _) B1.out _) B1.out _) B1.out _) B1.out _)) (fun hHeld => ?_)
   clear hK K
   refine done_ (by kernel_rfl) ?_
   have Jq := Bd.out
   have Jr := B5.out
   have Js := Be.out
   have Jt := B1.out
   have Ju := cells_12 B0.out
   have Jv := frozen_12 B0.out
  iterate 2
   focus
    try go_wp2_with (first | ((with_reducible refine gate_callee (f := 64) rfl ?_); refine gom_ (some 20) Try.func64 (bound_sound_parts.calls B6 B7 Ba Bb Bc Bf Bg Bh Bi Bl _ _ B8 Bt _ _ ?side1 Bp.out A5.out) ?_; (case side1 => exact Kd.C_below Bo.out (by repeat (first | (with_reducible first | exact HB.out | apply ba_ | apply bn_ | apply bd_ | refine bs_ ?_ Bq.out | refine bs_ ?_ Bm.out | refine bs_ ?_ Br.out) | exact HB.out))); rintro e w35 ⟨rfl, hb⟩; refine ⟨_, rfl, ?_⟩; replace B4 := am_ (blk_below (g := Bs) (o := .cells #[.int .i64 B6, .int .i64 B7, .int .i64 Ba, .int .i64 Bb, .int .i64 Bc, .int .i64 Bf, .int .i64 Bg, .int .i64 Bh, .int .i64 Bi, .int .i64 Bl, .slice Bj B8.length Bk] 24 (0, 0)) (by (iterate 12 ((with_reducible repeat (first | apply kn_ | apply kd_ | apply ka_)); refine blk_far ?_ B5.out _)); (with_reducible repeat (first | apply kn_ | apply kd_ | apply ka_)); exact B4.out) hb); replace B3 := am_ (blk_below (g := B9) (o := .cells #[.int .i64 B6, .int .i64 B7, .int .i64 Ba, .int .i64 Bb, .int .i64 Bc, .int .i64 Bf, .int .i64 Bg, .int .i64 Bh, .int .i64 Bi, .int .i64 Bl, .slice Bj B8.length Bk] 68 (0, 0)) (by (iterate 12 ((with_reducible repeat (first | apply kn_ | apply kd_ | apply ka_)); refine blk_far ?_ B1.out _)); (with_reducible repeat (first | apply kn_ | apply kd_ | apply ka_)); exact B3.out) hb); replace B0 := am_ (blk_below (g := B2) (o := .cells #[.int .i64 B6, .int .i64 B7, .int .i64 Ba, .int .i64 Bb, .int .i64 Bc, .int .i64 Bf, .int .i64 Bg, .int .i64 Bh, .int .i64 Bi, .int .i64 Bl, .slice Bj B8.length Bk, .int .i64 Bt] 72 (0, 0)) (by (with_reducible repeat (first | apply kn_ | apply kd_ | apply ka_)); refine blk_put (cs := #[.int .i64 B6, .int .i64 B7, .int .i64 Ba, .int .i64 Bb, .int .i64 Bc, .int .i64 Bf, .int .i64 Bg, .int .i64 Bh, .int .i64 Bi, .int .i64 Bl, .slice Bj B8.length Bk, .int .i64 0]) ?_ 11 _ rfl; (with_reducible repeat (first | apply kn_ | apply kd_ | apply ka_)); refine blk_put (cs := #[.int .i64 B6, .int .i64 B7, .int .i64 Ba, .int .i64 Bb, .int .i64 Bc, .int .i64 Bf, .int .i64 Bg, .int .i64 Bh, .int .i64 Bi, .int .i64 Bl, .slice none 0 0, .int .i64 0]) ?_ 10 _ rfl; (with_reducible repeat (first | apply kn_ | apply kd_ | apply ka_)); refine blk_put (cs := #[.int .i64 B6, .int .i64 B7, .int .i64 Ba, .int .i64 Bb, .int .i64 Bc, .int .i64 Bf, .int .i64 Bg, .int .i64 Bh, .int .i64 Bi, .int .i64 0, .slice none 0 0, .int .i64 0]) ?_ 9 _ rfl; (with_reducible repeat (first | apply kn_ | apply kd_ | apply ka_)); refine blk_put (cs := #[.int .i64 B6, .int .i64 B7, .int .i64 Ba, .int .i64 Bb, .int .i64 Bc, .int .i64 Bf, .int .i64 Bg, .int .i64 Bh, .int .i64 0, .int .i64 0, .slice none 0 0, .int .i64 0]) ?_ 8 _ rfl; (with_reducible repeat (first | apply kn_ | apply kd_ | apply ka_)); refine blk_put (cs := #[.int .i64 B6, .int .i64 B7, .int .i64 Ba, .int .i64 Bb, .int .i64 Bc, .int .i64 Bf, .int .i64 Bg, .int .i64 0, .int .i64 0, .int .i64 0, .slice none 0 0, .int .i64 0]) ?_ 7 _ rfl; (with_reducible repeat (first | apply kn_ | apply kd_ | apply ka_)); refine blk_put (cs := #[.int .i64 B6, .int .i64 B7, .int .i64 Ba, .int .i64 Bb, .int .i64 Bc, .int .i64 Bf, .int .i64 0, .int .i64 0, .int .i64 0, .int .i64 0, .slice none 0 0, .int .i64 0]) ?_ 6 _ rfl; (with_reducible repeat (first | apply kn_ | apply kd_ | apply ka_)); refine blk_put (cs := #[.int .i64 B6, .int .i64 B7, .int .i64 Ba, .int .i64 Bb, .int .i64 Bc, .int .i64 0, .int .i64 0, .int .i64 0, .int .i64 0, .int .i64 0, .slice none 0 0, .int .i64 0]) ?_ 5 _ rfl; (with_reducible repeat (first | apply kn_ | apply kd_ | apply ka_)); refine blk_put (cs := #[.int .i64 B6, .int .i64 B7, .int .i64 Ba, .int .i64 Bb, .int .i64 0, .int .i64 0, .int .i64 0, .int .i64 0, .int .i64 0, .int .i64 0, .slice none 0 0, .int .i64 0]) ?_ 4 _ rfl; (with_reducible repeat (first | apply kn_ | apply kd_ | apply ka_)); refine blk_put (cs := #[.int .i64 B6, .int .i64 B7, .int .i64 Ba, .int .i64 0, .int .i64 0, .int .i64 0, .int .i64 0, .int .i64 0, .int .i64 0, .int .i64 0, .slice none 0 0, .int .i64 0]) ?_ 3 _ rfl; (with_reducible repeat (first | apply kn_ | apply kd_ | apply ka_)); refine blk_put (cs := #[.int .i64 B6, .int .i64 B7, .int .i64 0, .int .i64 0, .int .i64 0, .int .i64 0, .int .i64 0, .int .i64 0, .int .i64 0, .int .i64 0, .slice none 0 0, .int .i64 0]) ?_ 2 _ rfl; (with_reducible repeat (first | apply kn_ | apply kd_ | apply ka_)); refine blk_put (cs := #[.int .i64 B6, .int .i64 0, .int .i64 0, .int .i64 0, .int .i64 0, .int .i64 0, .int .i64 0, .int .i64 0, .int .i64 0, .int .i64 0, .slice none 0 0, .int .i64 0]) ?_ 1 _ rfl; (with_reducible repeat (first | apply kn_ | apply kd_ | apply ka_)); refine blk_put (cs := #[.int .i64 0, .int .i64 0, .int .i64 0, .int .i64 0, .int .i64 0, .int .i64 0, .int .i64 0, .int .i64 0, .int .i64 0, .int .i64 0, .slice none 0 0, .int .i64 0]) ?_ 0 _ rfl; (with_reducible repeat (first | apply kn_ | apply kd_ | apply ka_)); exact B0.out) hb); replace HB := am_ (below_step (by repeat (first | (with_reducible first | exact HB.out | apply ba_ | apply bn_ | apply bd_ | refine bs_ ?_ Bq.out | refine bs_ ?_ Bm.out | refine bs_ ?_ Br.out) | exact HB.out)) hb); (try clear hb); have Et : w35.cell? ⟨B2, 0, none⟩ = some (.int .i64 B6) := (blk_cell B0.out 0).trans rfl; have Eu : w35.cell? ⟨B2, 1, none⟩ = some (.int .i64 B7) := (blk_cell B0.out 1).trans rfl; have Ev : w35.cell? ⟨B2, 2, none⟩ = some (.int .i64 Ba) := (blk_cell B0.out 2).trans rfl; have Ew : w35.cell? ⟨B2, 3, none⟩ = some (.int .i64 Bb) := (blk_cell B0.out 3).trans rfl; have Ex : w35.cell? ⟨B2, 4, none⟩ = some (.int .i64 Bc) := (blk_cell B0.out 4).trans rfl; have Ey : w35.cell? ⟨B2, 5, none⟩ = some (.int .i64 Bf) := (blk_cell B0.out 5).trans rfl; have Ez : w35.cell? ⟨B2, 6, none⟩ = some (.int .i64 Bg) := (blk_cell B0.out 6).trans rfl; have F0 : w35.cell? ⟨B2, 7, none⟩ = some (.int .i64 Bh) := (blk_cell B0.out 7).trans rfl; have F1 : w35.cell? ⟨B2, 8, none⟩ = some (.int .i64 Bi) := (blk_cell B0.out 8).trans rfl; have F2 : w35.cell? ⟨B2, 9, none⟩ = some (.int .i64 Bl) := (blk_cell B0.out 9).trans rfl; have D4 : w35.cell? ⟨B2, 10, none⟩ = some (.slice Bj B8.length Bk) := (blk_cell B0.out 10).trans rfl; have D5 : w35.cell? ⟨B2, 11, none⟩ = some (.int .i64 Bt) := (blk_cell B0.out 11).trans rfl; have F3 := blk_frozen B0.out 0; have F4 := blk_frozen B0.out 1; have F5 := blk_frozen B0.out 2; have F6 := blk_frozen B0.out 3; have F7 := blk_frozen B0.out 4; have F8 := blk_frozen B0.out 5; have F9 := blk_frozen B0.out 6; have Fa := blk_frozen B0.out 7; have Fb := blk_frozen B0.out 8; have Fc := blk_frozen B0.out 9; have D6 := blk_frozen B0.out 10; have D7 := blk_frozen B0.out 11) | (go_at_call 65; (with_reducible refine (bound_sound_ends.calls B6 B7 Ba Bb Bc Bf Bg Bh Bi Bl _ _ B8 Bt _ _ (Kd.C_below Bo.out HB.out) Bp.out A7.out).mono ?_); rintro e w37 ⟨rfl, hb⟩; replace B4 := bkb_ B4 hb; replace B3 := bkb_ B3 hb; replace B0 := bkb_ B0 hb; replace HB := bst_ HB hb; (try clear hb); have Fd : w37.cell? ⟨B2, 0, none⟩ = some (.int .i64 B6) := (blk_cell B0.out 0).trans rfl; have Fe : w37.cell? ⟨B2, 1, none⟩ = some (.int .i64 B7) := (blk_cell B0.out 1).trans rfl; have Ff : w37.cell? ⟨B2, 2, none⟩ = some (.int .i64 Ba) := (blk_cell B0.out 2).trans rfl; have Fg : w37.cell? ⟨B2, 3, none⟩ = some (.int .i64 Bb) := (blk_cell B0.out 3).trans rfl; have Fh : w37.cell? ⟨B2, 4, none⟩ = some (.int .i64 Bc) := (blk_cell B0.out 4).trans rfl; have Fi : w37.cell? ⟨B2, 5, none⟩ = some (.int .i64 Bf) := (blk_cell B0.out 5).trans rfl; have Fj : w37.cell? ⟨B2, 6, none⟩ = some (.int .i64 Bg) := (blk_cell B0.out 6).trans rfl; have Fk : w37.cell? ⟨B2, 7, none⟩ = some (.int .i64 Bh) := (blk_cell B0.out 7).trans rfl; have Fl : w37.cell? ⟨B2, 8, none⟩ = some (.int .i64 Bi) := (blk_cell B0.out 8).trans rfl; have Fm : w37.cell? ⟨B2, 9, none⟩ = some (.int .i64 Bl) := (blk_cell B0.out 9).trans rfl; have D8 : w37.cell? ⟨B2, 10, none⟩ = some (.slice Bj B8.length Bk) := (blk_cell B0.out 10).trans rfl; have D9 : w37.cell? ⟨B2, 11, none⟩ = some (.int .i64 Bt) := (blk_cell B0.out 11).trans rfl; have Fn := blk_frozen B0.out 0; have Fo := blk_frozen B0.out 1; have Fp := blk_frozen B0.out 2; have Fq := blk_frozen B0.out 3; have Fr := blk_frozen B0.out 4; have Fs := blk_frozen B0.out 5; have Ft := blk_frozen B0.out 6; have Fu := blk_frozen B0.out 7; have Fv := blk_frozen B0.out 8; have Fw := blk_frozen B0.out 9; have Da := blk_frozen B0.out 10; have Db := blk_frozen B0.out 11) | (go_at_call 66; (with_reducible refine (bound_sound_turns.calls B6 B7 Ba Bb Bc Bf Bg Bh Bi Bl _ _ B8 Bt _ _ (Kd.C_below Bo.out HB.out) Bp.out A9.out).mono ?_); rintro e w39 ⟨rfl, hb⟩; replace B4 := bkb_ B4 hb; replace B3 := bkb_ B3 hb; replace B0 := bkb_ B0 hb; replace HB := bst_ HB hb; (try clear hb)))
    go_ret
    exact ⟨by first | rfl | (simp [*] <;> rfl), by repeat (first | (with_reducible first | exact HB.out | apply ba_ | apply bn_ | apply bd_ | refine bs_ ?_ Bq.out | refine bs_ ?_ Bm.out | refine bs_ ?_ Br.out) | exact HB.out)⟩
  ·try go_wp2_with (first | ((with_reducible refine gate_callee (f := 64) rfl ?_); refine gom_ (some 20) Try.func64 (bound_sound_parts.calls B6 B7 Ba Bb Bc Bf Bg Bh Bi Bl _ _ B8 Bt _ _ ?side1 Bp.out A5.out) ?_; (case side1 => exact Kd.C_below Bo.out (by repeat (first | (with_reducible first | exact HB.out | apply ba_ | apply bn_ | apply bd_ | refine bs_ ?_ Bq.out | refine bs_ ?_ Bm.out | refine bs_ ?_ Br.out) | exact HB.out))); rintro e w93 ⟨rfl, hb⟩; refine ⟨_, rfl, ?_⟩; replace B4 := am_ (blk_below (g := Bs) (o := .cells #[.int .i64 B6, .int .i64 B7, .int .i64 Ba, .int .i64 Bb, .int .i64 Bc, .int .i64 Bf, .int .i64 Bg, .int .i64 Bh, .int .i64 Bi, .int .i64 Bl, .slice Bj B8.length Bk] 24 (0, 0)) (by (iterate 12 ((with_reducible repeat (first | apply kn_ | apply kd_ | apply ka_)); refine blk_far ?_ B5.out _)); (with_reducible repeat (first | apply kn_ | apply kd_ | apply ka_)); exact B4.out) hb); replace B3 := am_ (blk_below (g := B9) (o := .cells #[.int .i64 B6, .int .i64 B7, .int .i64 Ba, .int .i64 Bb, .int .i64 Bc, .int .i64 Bf, .int .i64 Bg, .int .i64 Bh, .int .i64 Bi, .int .i64 Bl, .slice Bj B8.length Bk] 68 (0, 0)) (by (iterate 12 ((with_reducible repeat (first | apply kn_ | apply kd_ | apply ka_)); refine blk_far ?_ B1.out _)); (with_reducible repeat (first | apply kn_ | apply kd_ | apply ka_)); exact B3.out) hb); replace B0 := am_ (blk_below (g := B2) (o := .cells #[.int .i64 B6, .int .i64 B7, .int .i64 Ba, .int .i64 Bb, .int .i64 Bc, .int .i64 Bf, .int .i64 Bg, .int .i64 Bh, .int .i64 Bi, .int .i64 Bl, .slice Bj B8.length Bk, .int .i64 Bt] 72 (0, 0)) (by (with_reducible repeat (first | apply kn_ | apply kd_ | apply ka_)); refine blk_put (cs := #[.int .i64 B6, .int .i64 B7, .int .i64 Ba, .int .i64 Bb, .int .i64 Bc, .int .i64 Bf, .int .i64 Bg, .int .i64 Bh, .int .i64 Bi, .int .i64 Bl, .slice Bj B8.length Bk, .int .i64 0]) ?_ 11 _ rfl; (with_reducible repeat (first | apply kn_ | apply kd_ | apply ka_)); refine blk_put (cs := #[.int .i64 B6, .int .i64 B7, .int .i64 Ba, .int .i64 Bb, .int .i64 Bc, .int .i64 Bf, .int .i64 Bg, .int .i64 Bh, .int .i64 Bi, .int .i64 Bl, .slice none 0 0, .int .i64 0]) ?_ 10 _ rfl; (with_reducible repeat (first | apply kn_ | apply kd_ | apply ka_)); refine blk_put (cs := #[.int .i64 B6, .int .i64 B7, .int .i64 Ba, .int .i64 Bb, .int .i64 Bc, .int .i64 Bf, .int .i64 Bg, .int .i64 Bh, .int .i64 Bi, .int .i64 0, .slice none 0 0, .int .i64 0]) ?_ 9 _ rfl; (with_reducible repeat (first | apply kn_ | apply kd_ | apply ka_)); refine blk_put (cs := #[.int .i64 B6, .int .i64 B7, .int .i64 Ba, .int .i64 Bb, .int .i64 Bc, .int .i64 Bf, .int .i64 Bg, .int .i64 Bh, .int .i64 0, .int .i64 0, .slice none 0 0, .int .i64 0]) ?_ 8 _ rfl; (with_reducible repeat (first | apply kn_ | apply kd_ | apply ka_)); refine blk_put (cs := #[.int .i64 B6, .int .i64 B7, .int .i64 Ba, .int .i64 Bb, .int .i64 Bc, .int .i64 Bf, .int .i64 Bg, .int .i64 0, .int .i64 0, .int .i64 0, .slice none 0 0, .int .i64 0]) ?_ 7 _ rfl; (with_reducible repeat (first | apply kn_ | apply kd_ | apply ka_)); refine blk_put (cs := #[.int .i64 B6, .int .i64 B7, .int .i64 Ba, .int .i64 Bb, .int .i64 Bc, .int .i64 Bf, .int .i64 0, .int .i64 0, .int .i64 0, .int .i64 0, .slice none 0 0, .int .i64 0]) ?_ 6 _ rfl; (with_reducible repeat (first | apply kn_ | apply kd_ | apply ka_)); refine blk_put (cs := #[.int .i64 B6, .int .i64 B7, .int .i64 Ba, .int .i64 Bb, .int .i64 Bc, .int .i64 0, .int .i64 0, .int .i64 0, .int .i64 0, .int .i64 0, .slice none 0 0, .int .i64 0]) ?_ 5 _ rfl; (with_reducible repeat (first | apply kn_ | apply kd_ | apply ka_)); refine blk_put (cs := #[.int .i64 B6, .int .i64 B7, .int .i64 Ba, .int .i64 Bb, .int .i64 0, .int .i64 0, .int .i64 0, .int .i64 0, .int .i64 0, .int .i64 0, .slice none 0 0, .int .i64 0]) ?_ 4 _ rfl; (with_reducible repeat (first | apply kn_ | apply kd_ | apply ka_)); refine blk_put (cs := #[.int .i64 B6, .int .i64 B7, .int .i64 Ba, .int .i64 0, .int .i64 0, .int .i64 0, .int .i64 0, .int .i64 0, .int .i64 0, .int .i64 0, .slice none 0 0, .int .i64 0]) ?_ 3 _ rfl; (with_reducible repeat (first | apply kn_ | apply kd_ | apply ka_)); refine blk_put (cs := #[.int .i64 B6, .int .i64 B7, .int .i64 0, .int .i64 0, .int .i64 0, .int .i64 0, .int .i64 0, .int .i64 0, .int .i64 0, .int .i64 0, .slice none 0 0, .int .i64 0]) ?_ 2 _ rfl; (with_reducible repeat (first | apply kn_ | apply kd_ | apply ka_)); refine blk_put (cs := #[.int .i64 B6, .int .i64 0, .int .i64 0, .int .i64 0, .int .i64 0, .int .i64 0, .int .i64 0, .int .i64 0, .int .i64 0, .int .i64 0, .slice none 0 0, .int .i64 0]) ?_ 1 _ rfl; (with_reducible repeat (first | apply kn_ | apply kd_ | apply ka_)); refine blk_put (cs := #[.int .i64 0, .int .i64 0, .int .i64 0, .int .i64 0, .int .i64 0, .int .i64 0, .int .i64 0, .int .i64 0, .int .i64 0, .int .i64 0, .slice none 0 0, .int .i64 0]) ?_ 0 _ rfl; (with_reducible repeat (first | apply kn_ | apply kd_ | apply ka_)); exact B0.out) hb); replace HB := am_ (below_step (by repeat (first | (with_reducible first | exact HB.out | apply ba_ | apply bn_ | apply bd_ | refine bs_ ?_ Bq.out | refine bs_ ?_ Bm.out | refine bs_ ?_ Br.out) | exact HB.out)) hb); (try clear hb); have Fx : w93.cell? ⟨B2, 0, none⟩ = some (.int .i64 B6) := (blk_cell B0.out 0).trans rfl; have Fy : w93.cell? ⟨B2, 1, none⟩ = some (.int .i64 B7) := (blk_cell B0.out 1).trans rfl; have Fz : w93.cell? ⟨B2, 2, none⟩ = some (.int .i64 Ba) := (blk_cell B0.out 2).trans rfl; have G0 : w93.cell? ⟨B2, 3, none⟩ = some (.int .i64 Bb) := (blk_cell B0.out 3).trans rfl; have G1 : w93.cell? ⟨B2, 4, none⟩ = some (.int .i64 Bc) := (blk_cell B0.out 4).trans rfl; have G2 : w93.cell? ⟨B2, 5, none⟩ = some (.int .i64 Bf) := (blk_cell B0.out 5).trans rfl; have G3 : w93.cell? ⟨B2, 6, none⟩ = some (.int .i64 Bg) := (blk_cell B0.out 6).trans rfl; have G4 : w93.cell? ⟨B2, 7, none⟩ = some (.int .i64 Bh) := (blk_cell B0.out 7).trans rfl; have G5 : w93.cell? ⟨B2, 8, none⟩ = some (.int .i64 Bi) := (blk_cell B0.out 8).trans rfl; have G6 : w93.cell? ⟨B2, 9, none⟩ = some (.int .i64 Bl) := (blk_cell B0.out 9).trans rfl; have Dc : w93.cell? ⟨B2, 10, none⟩ = some (.slice Bj B8.length Bk) := (blk_cell B0.out 10).trans rfl; have Dd : w93.cell? ⟨B2, 11, none⟩ = some (.int .i64 Bt) := (blk_cell B0.out 11).trans rfl; have G7 := blk_frozen B0.out 0; have G8 := blk_frozen B0.out 1; have G9 := blk_frozen B0.out 2; have Ga := blk_frozen B0.out 3; have Gb := blk_frozen B0.out 4; have Gc := blk_frozen B0.out 5; have Gd := blk_frozen B0.out 6; have Ge := blk_frozen B0.out 7; have Gf := blk_frozen B0.out 8; have Gg := blk_frozen B0.out 9; have De := blk_frozen B0.out 10; have Df := blk_frozen B0.out 11) | (go_at_call 65; (with_reducible refine (bound_sound_ends.calls B6 B7 Ba Bb Bc Bf Bg Bh Bi Bl _ _ B8 Bt _ _ (Kd.C_below Bo.out HB.out) Bp.out A7.out).mono ?_); rintro e w95 ⟨rfl, hb⟩; replace B4 := bkb_ B4 hb; replace B3 := bkb_ B3 hb; replace B0 := bkb_ B0 hb; replace HB := bst_ HB hb; (try clear hb)))
   go_ret
   exact ⟨by first | rfl | (simp [*] <;> rfl), by repeat (first | (with_reducible first | exact HB.out | apply ba_ | apply bn_ | apply bd_ | refine bs_ ?_ Bq.out | refine bs_ ?_ Bm.out | refine bs_ ?_ Br.out) | exact HB.out)⟩
  ·try go_wp2_with (first | ((with_reducible refine gate_callee (f := 64) rfl ?_); refine gom_ (some 20) Try.func64 (bound_sound_parts.calls B6 B7 Ba Bb Bc Bf Bg Bh Bi Bl _ _ B8 Bt _ _ ?side1 Bp.out A5.out) ?_; (case side1 => exact Kd.C_below Bo.out (by repeat (first | (with_reducible first | exact HB.out | apply ba_ | apply bn_ | apply bd_ | refine bs_ ?_ Bq.out | refine bs_ ?_ Bm.out | refine bs_ ?_ Br.out) | exact HB.out))); rintro e w120 ⟨rfl, hb⟩; refine ⟨_, rfl, ?_⟩; replace B4 := am_ (blk_below (g := Bs) (o := .cells #[.int .i64 B6, .int .i64 B7, .int .i64 Ba, .int .i64 Bb, .int .i64 Bc, .int .i64 Bf, .int .i64 Bg, .int .i64 Bh, .int .i64 Bi, .int .i64 Bl, .slice Bj B8.length Bk] 24 (0, 0)) (by (iterate 12 ((with_reducible repeat (first | apply kn_ | apply kd_ | apply ka_)); refine blk_far ?_ B5.out _)); (with_reducible repeat (first | apply kn_ | apply kd_ | apply ka_)); exact B4.out) hb); replace B3 := am_ (blk_below (g := B9) (o := .cells #[.int .i64 B6, .int .i64 B7, .int .i64 Ba, .int .i64 Bb, .int .i64 Bc, .int .i64 Bf, .int .i64 Bg, .int .i64 Bh, .int .i64 Bi, .int .i64 Bl, .slice Bj B8.length Bk] 68 (0, 0)) (by (iterate 12 ((with_reducible repeat (first | apply kn_ | apply kd_ | apply ka_)); refine blk_far ?_ B1.out _)); (with_reducible repeat (first | apply kn_ | apply kd_ | apply ka_)); exact B3.out) hb); replace B0 := am_ (blk_below (g := B2) (o := .cells #[.int .i64 B6, .int .i64 B7, .int .i64 Ba, .int .i64 Bb, .int .i64 Bc, .int .i64 Bf, .int .i64 Bg, .int .i64 Bh, .int .i64 Bi, .int .i64 Bl, .slice Bj B8.length Bk, .int .i64 Bt] 72 (0, 0)) (by (with_reducible repeat (first | apply kn_ | apply kd_ | apply ka_)); refine blk_put (cs := #[.int .i64 B6, .int .i64 B7, .int .i64 Ba, .int .i64 Bb, .int .i64 Bc, .int .i64 Bf, .int .i64 Bg, .int .i64 Bh, .int .i64 Bi, .int .i64 Bl, .slice Bj B8.length Bk, .int .i64 0]) ?_ 11 _ rfl; (with_reducible repeat (first | apply kn_ | apply kd_ | apply ka_)); refine blk_put (cs := #[.int .i64 B6, .int .i64 B7, .int .i64 Ba, .int .i64 Bb, .int .i64 Bc, .int .i64 Bf, .int .i64 Bg, .int .i64 Bh, .int .i64 Bi, .int .i64 Bl, .slice none 0 0, .int .i64 0]) ?_ 10 _ rfl; (with_reducible repeat (first | apply kn_ | apply kd_ | apply ka_)); refine blk_put (cs := #[.int .i64 B6, .int .i64 B7, .int .i64 Ba, .int .i64 Bb, .int .i64 Bc, .int .i64 Bf, .int .i64 Bg, .int .i64 Bh, .int .i64 Bi, .int .i64 0, .slice none 0 0, .int .i64 0]) ?_ 9 _ rfl; (with_reducible repeat (first | apply kn_ | apply kd_ | apply ka_)); refine blk_put (cs := #[.int .i64 B6, .int .i64 B7, .int .i64 Ba, .int .i64 Bb, .int .i64 Bc, .int .i64 Bf, .int .i64 Bg, .int .i64 Bh, .int .i64 0, .int .i64 0, .slice none 0 0, .int .i64 0]) ?_ 8 _ rfl; (with_reducible repeat (first | apply kn_ | apply kd_ | apply ka_)); refine blk_put (cs := #[.int .i64 B6, .int .i64 B7, .int .i64 Ba, .int .i64 Bb, .int .i64 Bc, .int .i64 Bf, .int .i64 Bg, .int .i64 0, .int .i64 0, .int .i64 0, .slice none 0 0, .int .i64 0]) ?_ 7 _ rfl; (with_reducible repeat (first | apply kn_ | apply kd_ | apply ka_)); refine blk_put (cs := #[.int .i64 B6, .int .i64 B7, .int .i64 Ba, .int .i64 Bb, .int .i64 Bc, .int .i64 Bf, .int .i64 0, .int .i64 0, .int .i64 0, .int .i64 0, .slice none 0 0, .int .i64 0]) ?_ 6 _ rfl; (with_reducible repeat (first | apply kn_ | apply kd_ | apply ka_)); refine blk_put (cs := #[.int .i64 B6, .int .i64 B7, .int .i64 Ba, .int .i64 Bb, .int .i64 Bc, .int .i64 0, .int .i64 0, .int .i64 0, .int .i64 0, .int .i64 0, .slice none 0 0, .int .i64 0]) ?_ 5 _ rfl; (with_reducible repeat (first | apply kn_ | apply kd_ | apply ka_)); refine blk_put (cs := #[.int .i64 B6, .int .i64 B7, .int .i64 Ba, .int .i64 Bb, .int .i64 0, .int .i64 0, .int .i64 0, .int .i64 0, .int .i64 0, .int .i64 0, .slice none 0 0, .int .i64 0]) ?_ 4 _ rfl; (with_reducible repeat (first | apply kn_ | apply kd_ | apply ka_)); refine blk_put (cs := #[.int .i64 B6, .int .i64 B7, .int .i64 Ba, .int .i64 0, .int .i64 0, .int .i64 0, .int .i64 0, .int .i64 0, .int .i64 0, .int .i64 0, .slice none 0 0, .int .i64 0]) ?_ 3 _ rfl; (with_reducible repeat (first | apply kn_ | apply kd_ | apply ka_)); refine blk_put (cs := #[.int .i64 B6, .int .i64 B7, .int .i64 0, .int .i64 0, .int .i64 0, .int .i64 0, .int .i64 0, .int .i64 0, .int .i64 0, .int .i64 0, .slice none 0 0, .int .i64 0]) ?_ 2 _ rfl; (with_reducible repeat (first | apply kn_ | apply kd_ | apply ka_)); refine blk_put (cs := #[.int .i64 B6, .int .i64 0, .int .i64 0, .int .i64 0, .int .i64 0, .int .i64 0, .int .i64 0, .int .i64 0, .int .i64 0, .int .i64 0, .slice none 0 0, .int .i64 0]) ?_ 1 _ rfl; (with_reducible repeat (first | apply kn_ | apply kd_ | apply ka_)); refine blk_put (cs := #[.int .i64 0, .int .i64 0, .int .i64 0, .int .i64 0, .int .i64 0, .int .i64 0, .int .i64 0, .int .i64 0, .int .i64 0, .int .i64 0, .slice none 0 0, .int .i64 0]) ?_ 0 _ rfl; (with_reducible repeat (first | apply kn_ | apply kd_ | apply ka_)); exact B0.out) hb); replace HB := am_ (below_step (by repeat (first | (with_reducible first | exact HB.out | apply ba_ | apply bn_ | apply bd_ | refine bs_ ?_ Bq.out | refine bs_ ?_ Bm.out | refine bs_ ?_ Br.out) | exact HB.out)) hb); (try clear hb)))
   go_ret
   exact ⟨by first | rfl | (simp [*] <;> rfl), by repeat (first | (with_reducible first | exact HB.out | apply ba_ | apply bn_ | apply bd_ | refine bs_ ?_ Bq.out | refine bs_ ?_ Bm.out | refine bs_ ?_ Br.out) | exact HB.out)⟩
 ·replace c3 := Bool.eq_false_iff.mpr c3
  subst c3
  rw [if_neg (show ¬ (false = true) by decide)] at H
  replace H := Option.bind_eq_some_iff.mp H
  obtain ⟨Gl, D3, H⟩ := H
  replace H : (some Gl) = some r := H
  have Gm := am_ D3
  clear D3
  obtain rfl := Option.some.inj H
  go_enter Try.func37, Try.ntmps37
  go_wp2_with (first | ((with_reducible refine gate_dst (N := 1) rfl ?_); refine bxe_ 1 24 #[.int .i64 B6, .int .i64 B7, .int .i64 Ba, .int .i64 Bb, .int .i64 Bc, .int .i64 Bf, .int .i64 Bg, .int .i64 Bh, .int .i64 Bi, .int .i64 Bl, .slice Bj B8.length Bk] ?_; intro Bs hg w122 hbox hb; have B4 := am_ (hbox); have By := gwk_ HB hg; have Bq := By; replace HB := bst_ HB hb; clear hb hbox hg; have Gp := cells_11 B4.out; have Gq := frozen_11 B4.out) | ((with_reducible refine gate_callee (f := 62) rfl ?_); refine gom_ (some 8) Try.func62 (bound_of.calls k B6 B7 Ba Bb Bc Bf Bg Bh Bi Bl _ _ B8 _ _ (Kd.C_below Bo.out HB.out) Bp.out A2.out) ?_; rintro e w124 ⟨rfl, hb⟩; refine ⟨_, rfl, ?_⟩; replace B4 := bkb_ B4 hb; replace HB := bst_ HB hb; (try clear hb)) | ((with_reducible refine gate_dst (N := 3) rfl ?_); refine bxe_ 3 68 #[.int .i64 0, .int .i64 0, .int .i64 0, .int .i64 0, .int .i64 0, .int .i64 0, .int .i64 0, .int .i64 0, .int .i64 0, .int .i64 0, .slice none 0 0] ?_; intro B9 hg w125 hbox hb; have B3 := am_ (hbox); have Bz := gwk_ HB hg; have Bm := Bz; replace HB := bst_ HB hb; have Bn := nbk_ B4 hg; have Bu := nbs_ Bn; replace B4 := bkb_ B4 hb; clear hb hbox hg) | ((with_reducible refine gate_store (t := 68) (p := 3) rfl ?_); refine row_store_event (t := 68) (p := 3) (v := ?vo_w126) ?hgd ?ho ?hn B9 #[.int .i64 B6, .int .i64 B7, .int .i64 Ba, .int .i64 Bb, .int .i64 Bc, .int .i64 Bf, .int .i64 Bg, .int .i64 Bh, .int .i64 Bi, .int .i64 Bl, .slice Bj B8.length Bk] ?hx ?hy 68 #[.int .i64 0, .int .i64 0, .int .i64 0, .int .i64 0, .int .i64 0, .int .i64 0, .int .i64 0, .int .i64 0, .int .i64 0, .int .i64 0, .slice none 0 0] ?hg ?hi ?hold ?h1 ?_; (case hgd => rfl); (case ho => rfl); (case hn => rfl); (case hx => rfl); (case hy => rfl); (case hg => exact (by (with_reducible repeat (first | apply kn_ | apply kd_ | apply ka_)); exact B3.out)); (case hi => kernel_rfl); (case hold => rfl); (case h1 => (first | kernel_rfl | simp [Value.oneCell'])); intro w126 hw; have D0 : Aside0 (w126.heap[Bs]? = some (.cells #[.int .i64 B6, .int .i64 B7, .int .i64 Ba, .int .i64 Bb, .int .i64 Bc, .int .i64 Bf, .int .i64 Bg, .int .i64 Bh, .int .i64 Bi, .int .i64 Bl, .slice Bj B8.length Bk] 24 (0, 0))) := ⟨(by rw [hw]; exact (by (with_reducible repeat (first | apply kn_ | apply kd_ | apply ka_)); refine blk_farc ?_ Bn.out; (with_reducible repeat (first | apply kn_ | apply kd_ | apply ka_)); exact B4.out))⟩; have D1 : Aside0 (w126.heap[B9]? = some (.cells #[.int .i64 B6, .int .i64 B7, .int .i64 Ba, .int .i64 Bb, .int .i64 Bc, .int .i64 Bf, .int .i64 Bg, .int .i64 Bh, .int .i64 Bi, .int .i64 Bl, .slice Bj B8.length Bk] 68 (0, 0))) := ⟨(by rw [hw]; exact (by (with_reducible repeat (first | apply kn_ | apply kd_ | apply ka_)); refine setRow_heap _ _ #[.int .i64 0, .int .i64 0, .int .i64 0, .int .i64 0, .int .i64 0, .int .i64 0, .int .i64 0, .int .i64 0, .int .i64 0, .int .i64 0, .slice none 0 0] _ 68 (0, 0) ?_; (with_reducible repeat (first | apply kn_ | apply kd_ | apply ka_)); exact B3.out))⟩; have D2 : Aside0 (Below w.heap.size w w126) := ⟨(by rw [hw]; exact (by repeat (first | (with_reducible first | exact HB.out | refine below_setc ?_ Bm.out | apply below_alloc | apply pw_below_drewN | apply below_drew1 | refine bs_ ?_ Bq.out | refine bs_ ?_ Bm.out) | exact HB.out)))⟩; clear hw; clear B4; clear B3; clear HB; have B4 := D0; have B3 := D1; have HB := D2; clear D0 D1 D2; have Gr := Bn.out; have Gs := Bu.out; have Gt := cells_11 B4.out; have Gu := frozen_11 B4.out) | ((with_reducible refine gate_callee (f := 54) rfl ?_); refine gom_ (some 14) Try.func54 (conf_Plain.calls k B6 B7 Ba Bb Bc Bf Bg Bh Bi Bl _ _ B8 _ _ (Kd.C_below Bo.out HB.out) Bp.out Gm.out) ?_; rintro e w129 ⟨rfl, hb⟩; refine ⟨_, rfl, ?_⟩; replace B4 := bkb_ B4 hb; replace B3 := bkb_ B3 hb; replace HB := bst_ HB hb; (try clear hb)))
  go_ret
  exact ⟨by first | rfl | (simp [*] <;> rfl), by repeat (first | (with_reducible first | exact HB.out | apply ba_ | apply bn_ | apply bd_ | refine bs_ ?_ Bq.out | refine bs_ ?_ Bm.out) | exact HB.out)⟩
end Go.Proofs.Ythdoghhmooodjaa.Gn
