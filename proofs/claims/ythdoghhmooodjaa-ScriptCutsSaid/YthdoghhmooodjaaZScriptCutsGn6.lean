import Derived.Test.YthdoghhmooodjaaZScriptCutsGn0
import Derived.Test.YthdoghhmooodjaaZScriptCutsGn1
import Derived.Test.YthdoghhmooodjaaZScriptCutsGn3
import Derived.Test.YthdoghhmooodjaaZScriptCutsGn4
import Derived.Test.YthdoghhmooodjaaZScriptCutsGn5
namespace Go.Proofs.Ythdoghhmooodjaa.Gn
open Go.RowKit Go.Proofs.YthdoghhmooodjaaW.PrintWords Go.Proofs.YthdoghhmooodjaaW.PrintLast Go.Proofs.YthdoghhmooodjaaW.PrintMore
attribute [local go_sem] max2_int min2_int max_two min_two max_three min_three max_four min_four   -- for this text's walks alone
set_option linter.unusedVariables false
set_option linter.unusedSimpArgs false
def bound_Right.f (k : Nat) (a0_0 a0_1 a0_2 a0_3 a0_4 a0_5 a0_6 a0_7 a0_8 a0_9 : Int) (l0_10 : List Int) : Option (Int) := (bound_of.f k a0_0 a0_1 a0_2 a0_3 a0_4 a0_5 a0_6 a0_7 a0_8 a0_9 l0_10).bind fun t415 => (if t415 = true then ((bound_plain_guard.f a0_0 a0_1 a0_2 a0_3 a0_4 a0_5 a0_6 a0_7 a0_8 a0_9 l0_10).bind fun t418 => ((bound_sound_parts.f a0_0 a0_1 a0_2 a0_3 a0_4 a0_5 a0_6 a0_7 a0_8 a0_9 l0_10 t418).bind fun t420 => (if t420 = true then ((bound_sound_ends.f a0_0 a0_1 a0_2 a0_3 a0_4 a0_5 a0_6 a0_7 a0_8 a0_9 l0_10 t418).bind fun t421 => (if t421 = true then ((bound_sound_turns.f a0_0 a0_1 a0_2 a0_3 a0_4 a0_5 a0_6 a0_7 a0_8 a0_9 l0_10 t418).bind fun t422 => (if t422 = true then (some 0) else (some 8))) else (some 8))) else (some 8)))) else ((conf_Plain.f k a0_0 a0_1 a0_2 a0_3 a0_4 a0_5 a0_6 a0_7 a0_8 a0_9 l0_10).bind fun t417 => (some t417)))
theorem bound_Right.mono : ∀ a0 a1 a2 a3 a4 a5 a6 a7 a8 a9 a10 k, LeO (bound_Right.f k a0 a1 a2 a3 a4 a5 a6 a7 a8 a9 a10) (bound_Right.f (k + 1) a0 a1 a2 a3 a4 a5 a6 a7 a8 a9 a10) := by
 intro a0 a1 a2 a3 a4 a5 a6 a7 a8 a9 a10 k
 unfold bound_Right.f
 repeat' first
   | (with_reducible exact bound_of.mono _ _ _ _ _ _ _ _ _ _ _ _)
   | (with_reducible exact conf_Plain.mono _ _ _ _ _ _ _ _ _ _ _ _)
   | (with_reducible exact LeO.refl _)
   | (with_reducible exact LeO.none _)
   | (with_reducible refine LeO.ite ?_ ?_)
   | (with_reducible refine LeO.bind ?_ (fun _ => ?_))
   | exact bound_of.mono _ _ _ _ _ _ _ _ _ _ _ _
   | exact conf_Plain.mono _ _ _ _ _ _ _ _ _ _ _ _
   | exact LeO.none _
   | refine LeO.ite ?_ ?_
   | refine LeO.bind ?_ (fun _ => ?_)
set_option maxHeartbeats 8000000 in
set_option maxRecDepth 100000 in
theorem bound_Right.calls (k : Nat) (a0_0 a0_1 a0_2 a0_3 a0_4 a0_5 a0_6 a0_7 a0_8 a0_9 : Int) (A0_10 : Option Addr) (c0_10 : Nat) (l0_10 : List Int) (r : Int) (w : World) (hr0_10 : Kd.C (Kd.int .i64) w A0_10 l0_10.length l0_10) (hc0_10 : l0_10.length ≤ c0_10) (h : bound_Right.f k a0_0 a0_1 a0_2 a0_3 a0_4 a0_5 a0_6 a0_7 a0_8 a0_9 l0_10 = some r) :
  Calls Try.prog 37 #[.agg #[.int .i64 a0_0, .int .i64 a0_1, .int .i64 a0_2, .int .i64 a0_3, .int .i64 a0_4, .int .i64 a0_5, .int .i64 a0_6, .int .i64 a0_7, .int .i64 a0_8, .int .i64 a0_9, .slice A0_10 l0_10.length c0_10]] w fun e w' => e = .returned (.int .i64 r) ∧ Below w.heap.size w w' := by
 have hu24 := Try.underlying24
 have hu68 := Try.underlying68
 have hu72 := Try.underlying72
 have HR0_10 := am_ hr0_10
 have HC0_10 := am_ hc0_10
 clear hr0_10 hc0_10
 have HB := am_ (Below.refl w.heap.size w)
 have H := h
 unfold bound_Right.f at H
 clear h
 obtain ⟨t415, A2, H⟩ := bes_ H
 try dsimp only at H
 by_cases c3 : t415 = true
 ·subst c3
  rw [if_pos rfl] at H
  obtain ⟨t418, A4, H⟩ := bes_ H
  try dsimp only at H
  obtain ⟨t420, A5, H⟩ := bes_ H
  try dsimp only at H
  by_cases c6 : t420 = true
  subst c6
  rw [if_pos rfl] at H
  obtain ⟨t421, A7, H⟩ := bes_ H
  try dsimp only at H
  by_cases c8 : t421 = true
  subst c8
  rw [if_pos rfl] at H
  obtain ⟨t422, A9, H⟩ := bes_ H
  try dsimp only at H
  by_cases c10 : t422 = true
  subst c10
  rw [if_pos rfl] at H
  obtain rfl := Option.some.inj H
  rotate_left
  replace c10 := Bool.eq_false_iff.mpr c10
  subst c10
  rw [if_neg (show ¬ (false = true) by decide)] at H
  obtain rfl := Option.some.inj H
  rotate_left
  replace c8 := Bool.eq_false_iff.mpr c8
  subst c8
  rw [if_neg (show ¬ (false = true) by decide)] at H
  obtain rfl := Option.some.inj H
  rotate_left
  replace c6 := Bool.eq_false_iff.mpr c6
  subst c6
  rw [if_neg (show ¬ (false = true) by decide)] at H
  obtain rfl := Option.some.inj H
  rotate_left
  all_goals
   go_enter Try.func37, Try.ntmps37
   try go_wp2_with (first | ((with_reducible refine gate_dst (N := 1) rfl ?_); refine bxe_ 1 24 #[.int .i64 a0_0, .int .i64 a0_1, .int .i64 a0_2, .int .i64 a0_3, .int .i64 a0_4, .int .i64 a0_5, .int .i64 a0_6, .int .i64 a0_7, .int .i64 a0_8, .int .i64 a0_9, .slice A0_10 l0_10.length c0_10] ?_; intro gb401 hg w11 hbox hb; have BK401 := am_ (hbox); have GW401 := gwk_ HB hg; have GE401 := GW401; replace HB := bst_ HB hb; clear hb hbox hg; have hcz12 := cells_11 BK401.out; have hfz12 := frozen_11 BK401.out) | ((with_reducible refine gate_callee (f := 62) rfl ?_); refine gom_ (some 8) Try.func62 (bound_of.calls k a0_0 a0_1 a0_2 a0_3 a0_4 a0_5 a0_6 a0_7 a0_8 a0_9 _ _ l0_10 _ _ (Kd.C_below HR0_10.out HB.out) HC0_10.out A2.out) ?_; rintro e w13 ⟨rfl, hb⟩; refine ⟨_, rfl, ?_⟩; replace BK401 := bkb_ BK401 hb; replace HB := bst_ HB hb; (try clear hb)) | ((with_reducible refine gate_dst (N := 3) rfl ?_); refine bxe_ 3 68 #[.int .i64 0, .int .i64 0, .int .i64 0, .int .i64 0, .int .i64 0, .int .i64 0, .int .i64 0, .int .i64 0, .int .i64 0, .int .i64 0, .slice none 0 0] ?_; intro gb416 hg w14 hbox hb; have BK416 := am_ (hbox); have GW416 := gwk_ HB hg; have GE416 := GW416; replace HB := bst_ HB hb; have NB401_416 := nbk_ BK401 hg; have NB416_401 := nbs_ NB401_416; replace BK401 := bkb_ BK401 hb; clear hb hbox hg) | ((with_reducible refine gate_store (t := 68) (p := 3) rfl ?_); refine row_store_event (t := 68) (p := 3) (v := ?vo_w15) ?hgd ?ho ?hn gb416 #[.int .i64 a0_0, .int .i64 a0_1, .int .i64 a0_2, .int .i64 a0_3, .int .i64 a0_4, .int .i64 a0_5, .int .i64 a0_6, .int .i64 a0_7, .int .i64 a0_8, .int .i64 a0_9, .slice A0_10 l0_10.length c0_10] ?hx ?hy 68 #[.int .i64 0, .int .i64 0, .int .i64 0, .int .i64 0, .int .i64 0, .int .i64 0, .int .i64 0, .int .i64 0, .int .i64 0, .int .i64 0, .slice none 0 0] ?hg ?hi ?hold ?h1 ?_; (case hgd => rfl); (case ho => rfl); (case hn => rfl); (case hx => rfl); (case hy => rfl); (case hg => exact (by (with_reducible repeat (first | apply kn_ | apply kd_ | apply ka_)); exact BK416.out)); (case hi => kernel_rfl); (case hold => rfl); (case h1 => (first | kernel_rfl | simp [Value.oneCell'])); intro w15 hw; have n0_ : Aside0 (w15.heap[gb401]? = some (.cells #[.int .i64 a0_0, .int .i64 a0_1, .int .i64 a0_2, .int .i64 a0_3, .int .i64 a0_4, .int .i64 a0_5, .int .i64 a0_6, .int .i64 a0_7, .int .i64 a0_8, .int .i64 a0_9, .slice A0_10 l0_10.length c0_10] 24 (0, 0))) := ⟨(by rw [hw]; exact (by (with_reducible repeat (first | apply kn_ | apply kd_ | apply ka_)); refine blk_farc ?_ NB401_416.out; (with_reducible repeat (first | apply kn_ | apply kd_ | apply ka_)); exact BK401.out))⟩; have n1_ : Aside0 (w15.heap[gb416]? = some (.cells #[.int .i64 a0_0, .int .i64 a0_1, .int .i64 a0_2, .int .i64 a0_3, .int .i64 a0_4, .int .i64 a0_5, .int .i64 a0_6, .int .i64 a0_7, .int .i64 a0_8, .int .i64 a0_9, .slice A0_10 l0_10.length c0_10] 68 (0, 0))) := ⟨(by rw [hw]; exact (by (with_reducible repeat (first | apply kn_ | apply kd_ | apply ka_)); refine setRow_heap _ _ #[.int .i64 0, .int .i64 0, .int .i64 0, .int .i64 0, .int .i64 0, .int .i64 0, .int .i64 0, .int .i64 0, .int .i64 0, .int .i64 0, .slice none 0 0] _ 68 (0, 0) ?_; (with_reducible repeat (first | apply kn_ | apply kd_ | apply ka_)); exact BK416.out))⟩; have n2_ : Aside0 (Below w.heap.size w w15) := ⟨(by rw [hw]; exact (by repeat (first | (with_reducible first | exact HB.out | refine below_setc ?_ GE416.out | apply below_alloc | apply pw_below_drewN | apply below_drew1 | refine bs_ ?_ GE401.out | refine bs_ ?_ GE416.out) | exact HB.out)))⟩; clear hw; clear BK401; clear BK416; clear HB; have BK401 := n0_; have BK416 := n1_; have HB := n2_; clear n0_ n1_ n2_))
   replace BK401 := am_ (blk_drew BK401.out)
   replace BK416 := am_ (blk_drew BK416.out)
   replace HB := am_ (below_drew1 HB.out)
   refine start_ (n := 6) (S := fun w' => ce_ w' gb416 0 (.int .i64 a0_0) ∧ ce_ w' gb416 1 (.int .i64 a0_1) ∧ ce_ w' gb416 2 (.int .i64 a0_2) ∧ ce_ w' gb416 3 (.int .i64 a0_3) ∧ ce_ w' gb416 4 (.int .i64 a0_4) ∧ ce_ w' gb416 5 (.int .i64 a0_5) ∧ ce_ w' gb416 6 (.int .i64 a0_6) ∧ ce_ w' gb416 7 (.int .i64 a0_7) ∧ ce_ w' gb416 8 (.int .i64 a0_8) ∧ ce_ w' gb416 9 (.int .i64 a0_9) ∧ ce_ w' gb416 10 (.slice A0_10 l0_10.length c0_10)) (ds := []) #[false, false, false, false, false, false] (by kernel_rfl) rfl rfl ⟨(blk_cell BK416.out 0).trans rfl, (blk_cell BK416.out 1).trans rfl, (blk_cell BK416.out 2).trans rfl, (blk_cell BK416.out 3).trans rfl, (blk_cell BK416.out 4).trans rfl, (blk_cell BK416.out 5).trans rfl, (blk_cell BK416.out 6).trans rfl, (blk_cell BK416.out 7).trans rfl, (blk_cell BK416.out 8).trans rfl, (blk_cell BK416.out 9).trans rfl, (blk_cell BK416.out 10).trans rfl⟩ (fun hHeld => ?_)
   generalize w15.drew = w16 at BK401 BK416 HB hHeld ⊢
   refine tak_ 0 (some 15) rfl rfl (by kernel_rfl) hHeld ?_ (by rintro w' ⟨s0, s1, s2, s3, s4, s5, s6, s7, s8, s9, s10⟩; go_simp; with_reducible rfl)
   refine tak_ 1 (some 16) rfl rfl (by kernel_rfl) hHeld ?_ (by rintro w' ⟨s0, s1, s2, s3, s4, s5, s6, s7, s8, s9, s10⟩; go_simp; with_reducible rfl)
   refine join_ (σ := Nat) 1 #[true, true, true, true, true, false] (fun s_ => [(17, .int .i64 t418), (5, .pointer (some ⟨s_, 0, none⟩)), (18, .agg #[.int .i64 a0_0, .int .i64 a0_1, .int .i64 a0_2, .int .i64 a0_3, .int .i64 a0_4, .int .i64 a0_5, .int .i64 a0_6, .int .i64 a0_7, .int .i64 a0_8, .int .i64 a0_9, .slice A0_10 l0_10.length c0_10, .int .i64 t418])]) (fun s_ w' => (ce_ w' gb416 0 (.int .i64 a0_0) ∧ ce_ w' gb416 1 (.int .i64 a0_1) ∧ ce_ w' gb416 2 (.int .i64 a0_2) ∧ ce_ w' gb416 3 (.int .i64 a0_3) ∧ ce_ w' gb416 4 (.int .i64 a0_4) ∧ ce_ w' gb416 5 (.int .i64 a0_5) ∧ ce_ w' gb416 6 (.int .i64 a0_6) ∧ ce_ w' gb416 7 (.int .i64 a0_7) ∧ ce_ w' gb416 8 (.int .i64 a0_8) ∧ ce_ w' gb416 9 (.int .i64 a0_9) ∧ ce_ w' gb416 10 (.slice A0_10 l0_10.length c0_10)) ∧ (w'.heap[gb401]? = some (.cells #[.int .i64 a0_0, .int .i64 a0_1, .int .i64 a0_2, .int .i64 a0_3, .int .i64 a0_4, .int .i64 a0_5, .int .i64 a0_6, .int .i64 a0_7, .int .i64 a0_8, .int .i64 a0_9, .slice A0_10 l0_10.length c0_10] 24 (0, 0))) ∧ (w'.heap[gb416]? = some (.cells #[.int .i64 a0_0, .int .i64 a0_1, .int .i64 a0_2, .int .i64 a0_3, .int .i64 a0_4, .int .i64 a0_5, .int .i64 a0_6, .int .i64 a0_7, .int .i64 a0_8, .int .i64 a0_9, .slice A0_10 l0_10.length c0_10] 68 (0, 0))) ∧ (w'.heap[s_]? = some (.cells #[.int .i64 0, .int .i64 0, .int .i64 0, .int .i64 0, .int .i64 0, .int .i64 0, .int .i64 0, .int .i64 0, .int .i64 0, .int .i64 0, .slice none 0 0, .int .i64 0] 72 (0, 0))) ∧ (w.heap.size ≤ s_) ∧ (w.heap.size ≤ s_) ∧ (gb401 ≠ s_) ∧ (s_ ≠ gb401) ∧ (gb416 ≠ s_) ∧ (s_ ≠ gb416) ∧ (Below w.heap.size w w')) ?_ ?_
   rotate_left
   ·intro hCont
    refine two_ (i := 2) (j := 4) (Ni := some 17) (Nj := some 5) #[true, true, true, false, false, false] #[true, true, false, false, true, false] rfl rfl rfl rfl (by kernel_rfl) (by decide) (by decide) (fun K hK => ?_) (fun K hK => ?_)
    ·skip
     refine gos_ Try.func63 (bound_plain_guard.calls a0_0 a0_1 a0_2 a0_3 a0_4 a0_5 a0_6 a0_7 a0_8 a0_9 _ _ l0_10 _ _ (Kd.C_below HR0_10.out HB.out) HC0_10.out A4.out) ?_
     rintro e w17 ⟨rfl, hb⟩
     refine ⟨_, rfl, ?_⟩
     replace BK401 := bkb_ BK401 hb
     replace BK416 := bkb_ BK416 hb
     replace HB := bst_ HB hb
     (try clear hb)
     (try clear hb2)
     (try clear hk)
     (try clear hi)
     refine hK.out _ _ (cells_11 BK416.out) (fun hHeld => ?_)
     clear hK K
     refine nor_ 17 ?_
     refine pur_ 3 (some 18) rfl rfl (by kernel_rfl) ?_
     refine oon_ 4 (some 5) rfl rfl (by kernel_rfl) (fun K hK => ?_)
     refine box_step ?hg (N := 5) ?hd (cs := #[.int .i64 0, .int .i64 0, .int .i64 0, .int .i64 0, .int .i64 0, .int .i64 0, .int .i64 0, .int .i64 0, .int .i64 0, .int .i64 0, .slice none 0 0, .int .i64 0]) (t := 72) ?hr ?_; (case hd => rfl); (case hg => rfl); (case hr => first | (go_simp; done) | (go_simp; rfl))
     intro gb419 hg w18 hbox hb
     have BK419 := am_ (hbox)
     have GW419 := gwk_ HB hg
     have GE419 := GW419
     replace HB := bst_ HB hb
     have NB401_419 := nbk_ BK401 hg
     have NB419_401 := nbs_ NB401_419
     replace BK401 := bkb_ BK401 hb
     have NB416_419 := nbk_ BK416 hg
     have NB419_416 := nbs_ NB416_419
     replace BK416 := bkb_ BK416 hb
     clear hb hbox hg
     refine hK.out _ _ (cells_11 BK416.out) (fun hHeld => ?_)
     clear hK K
     refine nor_ 5 ?_
     exact norm_ (by simp only [putAll, Act.put, zs_]) (hCont (gb419) _ ⟨hHeld, (by (with_reducible repeat (first | apply kn_ | apply kd_ | apply ka_)); exact BK401.out), (by (with_reducible repeat (first | apply kn_ | apply kd_ | apply ka_)); exact BK416.out), (by (with_reducible repeat (first | apply kn_ | apply kd_ | apply ka_)); exact BK419.out), GW419.out, GE419.out, NB401_419.out, NB419_401.out, NB416_419.out, NB419_416.out, (by repeat (first | (with_reducible first | exact HB.out | apply ba_ | apply bn_ | apply bd_ | refine bs_ ?_ GE401.out | refine bs_ ?_ GE416.out | refine bs_ ?_ GE419.out) | exact HB.out))⟩)
    ·skip
     refine box_step ?hg (N := 5) ?hd (cs := #[.int .i64 0, .int .i64 0, .int .i64 0, .int .i64 0, .int .i64 0, .int .i64 0, .int .i64 0, .int .i64 0, .int .i64 0, .int .i64 0, .slice none 0 0, .int .i64 0]) (t := 72) ?hr ?_; (case hd => rfl); (case hg => rfl); (case hr => first | (go_simp; done) | (go_simp; rfl))
     intro gb419 hg w17 hbox hb
     have BK419 := am_ (hbox)
     have GW419 := gwk_ HB hg
     have GE419 := GW419
     replace HB := bst_ HB hb
     have NB401_419 := nbk_ BK401 hg
     have NB419_401 := nbs_ NB401_419
     replace BK401 := bkb_ BK401 hb
     have NB416_419 := nbk_ BK416 hg
     have NB419_416 := nbs_ NB416_419
     replace BK416 := bkb_ BK416 hb
     clear hb hbox hg
     refine hK.out _ _ (cells_11 BK416.out) (fun hHeld => ?_)
     clear hK K
     refine nor_ 5 ?_
     refine oon_ 2 (some 17) rfl rfl (by kernel_rfl) (fun K hK => ?_)
     refine gos_ Try.func63 (bound_plain_guard.calls a0_0 a0_1 a0_2 a0_3 a0_4 a0_5 a0_6 a0_7 a0_8 a0_9 _ _ l0_10 _ _ (Kd.C_below HR0_10.out HB.out) HC0_10.out A4.out) ?_
     rintro e w18 ⟨rfl, hb⟩
     refine ⟨_, rfl, ?_⟩
     replace BK401 := bkb_ BK401 hb
     replace BK416 := bkb_ BK416 hb
     replace BK419 := bkb_ BK419 hb
     replace HB := bst_ HB hb
     (try clear hb)
     (try clear hb2)
     (try clear hk)
     (try clear hi)
     refine hK.out _ _ (cells_11 BK416.out) (fun hHeld => ?_)
     clear hK K
     refine nor_ 17 ?_
     refine pur_ 3 (some 18) rfl rfl (by kernel_rfl) ?_
     exact norm_ (by simp only [putAll, Act.put, zs_]) (hCont (gb419) _ ⟨hHeld, (by (with_reducible repeat (first | apply kn_ | apply kd_ | apply ka_)); exact BK401.out), (by (with_reducible repeat (first | apply kn_ | apply kd_ | apply ka_)); exact BK416.out), (by (with_reducible repeat (first | apply kn_ | apply kd_ | apply ka_)); exact BK419.out), GW419.out, GE419.out, NB401_419.out, NB419_401.out, NB416_419.out, NB419_416.out, (by repeat (first | (with_reducible first | exact HB.out | apply ba_ | apply bn_ | apply bd_ | refine bs_ ?_ GE401.out | refine bs_ ?_ GE416.out | refine bs_ ?_ GE419.out) | exact HB.out))⟩)
   rintro gb419 w19 ⟨hS_, h0_, h1_, h2_, h3_, h4_, h5_, h6_, h7_, h8_, h9_⟩
   have n0_ : Aside0 (w19.heap[gb401]? = some (.cells #[.int .i64 a0_0, .int .i64 a0_1, .int .i64 a0_2, .int .i64 a0_3, .int .i64 a0_4, .int .i64 a0_5, .int .i64 a0_6, .int .i64 a0_7, .int .i64 a0_8, .int .i64 a0_9, .slice A0_10 l0_10.length c0_10] 24 (0, 0))) := ⟨h0_⟩
   have n1_ : Aside0 (w19.heap[gb416]? = some (.cells #[.int .i64 a0_0, .int .i64 a0_1, .int .i64 a0_2, .int .i64 a0_3, .int .i64 a0_4, .int .i64 a0_5, .int .i64 a0_6, .int .i64 a0_7, .int .i64 a0_8, .int .i64 a0_9, .slice A0_10 l0_10.length c0_10] 68 (0, 0))) := ⟨h1_⟩
   have n2_ : Aside0 (w19.heap[gb419]? = some (.cells #[.int .i64 0, .int .i64 0, .int .i64 0, .int .i64 0, .int .i64 0, .int .i64 0, .int .i64 0, .int .i64 0, .int .i64 0, .int .i64 0, .slice none 0 0, .int .i64 0] 72 (0, 0))) := ⟨h2_⟩
   have n3_ : Aside0 (w.heap.size ≤ gb419) := ⟨h3_⟩
   have n4_ : Aside0 (w.heap.size ≤ gb419) := ⟨h4_⟩
   have n5_ : Aside0 (gb401 ≠ gb419) := ⟨h5_⟩
   have n6_ : Aside0 (gb419 ≠ gb401) := ⟨h6_⟩
   have n7_ : Aside0 (gb416 ≠ gb419) := ⟨h7_⟩
   have n8_ : Aside0 (gb419 ≠ gb416) := ⟨h8_⟩
   have n9_ : Aside0 (Below w.heap.size w w19) := ⟨h9_⟩
   clear BK401
   clear BK416
   clear HB
   clear h0_ h1_ h2_ h3_ h4_ h5_ h6_ h7_ h8_ h9_
   have BK401 := n0_
   have BK416 := n1_
   have BK419 := n2_
   have GW419 := n3_
   have GE419 := n4_
   have NB401_419 := n5_
   have NB419_401 := n6_
   have NB416_419 := n7_
   have NB419_416 := n8_
   have HB := n9_
   clear n0_ n1_ n2_ n3_ n4_ n5_ n6_ n7_ n8_ n9_
   have hHeld : ce_ w19 gb416 0 (.int .i64 a0_0) ∧ ce_ w19 gb416 1 (.int .i64 a0_1) ∧ ce_ w19 gb416 2 (.int .i64 a0_2) ∧ ce_ w19 gb416 3 (.int .i64 a0_3) ∧ ce_ w19 gb416 4 (.int .i64 a0_4) ∧ ce_ w19 gb416 5 (.int .i64 a0_5) ∧ ce_ w19 gb416 6 (.int .i64 a0_6) ∧ ce_ w19 gb416 7 (.int .i64 a0_7) ∧ ce_ w19 gb416 8 (.int .i64 a0_8) ∧ ce_ w19 gb416 9 (.int .i64 a0_9) ∧ ce_ w19 gb416 10 (.slice A0_10 l0_10.length c0_10) := hS_
   refine norm_ (a' := ?_) ?_ ?_
   rotate_left
   ·simp only [putAll, Act.put, zs_]
    rfl
   refine oon_ 5 none rfl rfl (by kernel_rfl) (fun K hK => ?_)
   have hs20 : w19.cell? ⟨gb419, 0, none⟩ = some (.int .i64 0) := (blk_cell BK419.out 0).trans rfl
   have hfs20 := blk_frozen BK419.out 0
   have hns20_0 := NB401_419.out
   have hns20_1 := NB416_419.out
   have hms20_0 := NB419_401.out
   have hms20_1 := NB419_416.out
   have hs21 : w19.cell? ⟨gb419, 1, none⟩ = some (.int .i64 0) := (blk_cell BK419.out 1).trans rfl
   have hfs21 := blk_frozen BK419.out 1
   have hns21_0 := NB401_419.out
   have hns21_1 := NB416_419.out
   have hms21_0 := NB419_401.out
   have hms21_1 := NB419_416.out
   have hs22 : w19.cell? ⟨gb419, 2, none⟩ = some (.int .i64 0) := (blk_cell BK419.out 2).trans rfl
   have hfs22 := blk_frozen BK419.out 2
   have hns22_0 := NB401_419.out
   have hns22_1 := NB416_419.out
   have hms22_0 := NB419_401.out
   have hms22_1 := NB419_416.out
   have hs23 : w19.cell? ⟨gb419, 3, none⟩ = some (.int .i64 0) := (blk_cell BK419.out 3).trans rfl
   have hfs23 := blk_frozen BK419.out 3
   have hns23_0 := NB401_419.out
   have hns23_1 := NB416_419.out
   have hms23_0 := NB419_401.out
   have hms23_1 := NB419_416.out
   have hs24 : w19.cell? ⟨gb419, 4, none⟩ = some (.int .i64 0) := (blk_cell BK419.out 4).trans rfl
   have hfs24 := blk_frozen BK419.out 4
   have hns24_0 := NB401_419.out
   have hns24_1 := NB416_419.out
   have hms24_0 := NB419_401.out
   have hms24_1 := NB419_416.out
   have hs25 : w19.cell? ⟨gb419, 5, none⟩ = some (.int .i64 0) := (blk_cell BK419.out 5).trans rfl
   have hfs25 := blk_frozen BK419.out 5
   have hns25_0 := NB401_419.out
   have hns25_1 := NB416_419.out
   have hms25_0 := NB419_401.out
   have hms25_1 := NB419_416.out
   have hs26 : w19.cell? ⟨gb419, 6, none⟩ = some (.int .i64 0) := (blk_cell BK419.out 6).trans rfl
   have hfs26 := blk_frozen BK419.out 6
   have hns26_0 := NB401_419.out
   have hns26_1 := NB416_419.out
   have hms26_0 := NB419_401.out
   have hms26_1 := NB419_416.out
   have hs27 : w19.cell? ⟨gb419, 7, none⟩ = some (.int .i64 0) := (blk_cell BK419.out 7).trans rfl
   have hfs27 := blk_frozen BK419.out 7
   have hns27_0 := NB401_419.out
   have hns27_1 := NB416_419.out
   have hms27_0 := NB419_401.out
   have hms27_1 := NB419_416.out
   have hs28 : w19.cell? ⟨gb419, 8, none⟩ = some (.int .i64 0) := (blk_cell BK419.out 8).trans rfl
   have hfs28 := blk_frozen BK419.out 8
   have hns28_0 := NB401_419.out
   have hns28_1 := NB416_419.out
   have hms28_0 := NB419_401.out
   have hms28_1 := NB419_416.out
   have hs29 : w19.cell? ⟨gb419, 9, none⟩ = some (.int .i64 0) := (blk_cell BK419.out 9).trans rfl
   have hfs29 := blk_frozen BK419.out 9
   have hns29_0 := NB401_419.out
   have hns29_1 := NB416_419.out
   have hms29_0 := NB419_401.out
   have hms29_1 := NB419_416.out
   have hs30 : w19.cell? ⟨gb419, 10, none⟩ = some (.slice none 0 0) := (blk_cell BK419.out 10).trans rfl
   have hfs30 := blk_frozen BK419.out 10
   have hns30_0 := NB401_419.out
   have hns30_1 := NB416_419.out
   have hms30_0 := NB419_401.out
   have hms30_1 := NB419_416.out
   have hs31 : w19.cell? ⟨gb419, 11, none⟩ = some (.int .i64 0) := (blk_cell BK419.out 11).trans rfl
   have hfs31 := blk_frozen BK419.out 11
   have hns31_0 := NB401_419.out
   have hns31_1 := NB416_419.out
   have hms31_0 := NB419_401.out
   have hms31_1 := NB419_416.out
   refine skip_ (w1 := ?_) (by rfl) rfl ?_ ?_
   rotate_left
   ·go_simp
    rfl
   refine hK.out _ _ (cells_11 (blk_far (p := ⟨gb419, _, none⟩) (blk_far (p := ⟨gb419, _, none⟩) (blk_far (p := ⟨gb419, _, none⟩) (blk_far (p := ⟨gb419, _, none⟩) (blk_far (p := ⟨gb419, _, none⟩) (blk_far (p := ⟨gb419, _, none⟩) (blk_far (p := ⟨gb419, _, none⟩) (blk_far (p := ⟨gb419, _, none⟩) (blk_far (p := ⟨gb419, _, none⟩) (blk_far (p := ⟨gb419, _, none⟩) (blk_far (p := ⟨gb419, _, none⟩) (blk_far (p := ⟨gb419, _, none⟩) BK416.out NB416_419.out _) NB416_419.out _) NB416_419.out _) NB416_419.out _) NB416_419.out _) NB416_419.out _) NB416_419.out _) NB416_419.out _) NB416_419.out _) NB416_419.out _) NB416_419.out _) NB416_419.out _)) (fun hHeld => ?_)
   clear hK K
   refine done_ (by kernel_rfl) ?_
   have hnb32 := NB419_401.out
   have hnc32 := NB401_419.out
   have hnb33 := NB419_416.out
   have hnc33 := NB416_419.out
   have hcz34 := cells_12 BK419.out
   have hfz34 := frozen_12 BK419.out
  iterate 2
   focus
    try go_wp2_with (first | ((with_reducible refine gate_callee (f := 64) rfl ?_); refine gom_ (some 20) Try.func64 (bound_sound_parts.calls a0_0 a0_1 a0_2 a0_3 a0_4 a0_5 a0_6 a0_7 a0_8 a0_9 _ _ l0_10 t418 _ _ ?side1 HC0_10.out A5.out) ?_; (case side1 => exact Kd.C_below HR0_10.out (by repeat (first | (with_reducible first | exact HB.out | apply ba_ | apply bn_ | apply bd_ | refine bs_ ?_ GE401.out | refine bs_ ?_ GE416.out | refine bs_ ?_ GE419.out) | exact HB.out))); rintro e w35 ⟨rfl, hb⟩; refine ⟨_, rfl, ?_⟩; replace BK401 := am_ (blk_below (g := gb401) (o := .cells #[.int .i64 a0_0, .int .i64 a0_1, .int .i64 a0_2, .int .i64 a0_3, .int .i64 a0_4, .int .i64 a0_5, .int .i64 a0_6, .int .i64 a0_7, .int .i64 a0_8, .int .i64 a0_9, .slice A0_10 l0_10.length c0_10] 24 (0, 0)) (by (iterate 12 ((with_reducible repeat (first | apply kn_ | apply kd_ | apply ka_)); refine blk_far ?_ NB401_419.out _)); (with_reducible repeat (first | apply kn_ | apply kd_ | apply ka_)); exact BK401.out) hb); replace BK416 := am_ (blk_below (g := gb416) (o := .cells #[.int .i64 a0_0, .int .i64 a0_1, .int .i64 a0_2, .int .i64 a0_3, .int .i64 a0_4, .int .i64 a0_5, .int .i64 a0_6, .int .i64 a0_7, .int .i64 a0_8, .int .i64 a0_9, .slice A0_10 l0_10.length c0_10] 68 (0, 0)) (by (iterate 12 ((with_reducible repeat (first | apply kn_ | apply kd_ | apply ka_)); refine blk_far ?_ NB416_419.out _)); (with_reducible repeat (first | apply kn_ | apply kd_ | apply ka_)); exact BK416.out) hb); replace BK419 := am_ (blk_below (g := gb419) (o := .cells #[.int .i64 a0_0, .int .i64 a0_1, .int .i64 a0_2, .int .i64 a0_3, .int .i64 a0_4, .int .i64 a0_5, .int .i64 a0_6, .int .i64 a0_7, .int .i64 a0_8, .int .i64 a0_9, .slice A0_10 l0_10.length c0_10, .int .i64 t418] 72 (0, 0)) (by (with_reducible repeat (first | apply kn_ | apply kd_ | apply ka_)); refine blk_put (cs := #[.int .i64 a0_0, .int .i64 a0_1, .int .i64 a0_2, .int .i64 a0_3, .int .i64 a0_4, .int .i64 a0_5, .int .i64 a0_6, .int .i64 a0_7, .int .i64 a0_8, .int .i64 a0_9, .slice A0_10 l0_10.length c0_10, .int .i64 0]) ?_ 11 _ rfl; (with_reducible repeat (first | apply kn_ | apply kd_ | apply ka_)); refine blk_put (cs := #[.int .i64 a0_0, .int .i64 a0_1, .int .i64 a0_2, .int .i64 a0_3, .int .i64 a0_4, .int .i64 a0_5, .int .i64 a0_6, .int .i64 a0_7, .int .i64 a0_8, .int .i64 a0_9, .slice none 0 0, .int .i64 0]) ?_ 10 _ rfl; (with_reducible repeat (first | apply kn_ | apply kd_ | apply ka_)); refine blk_put (cs := #[.int .i64 a0_0, .int .i64 a0_1, .int .i64 a0_2, .int .i64 a0_3, .int .i64 a0_4, .int .i64 a0_5, .int .i64 a0_6, .int .i64 a0_7, .int .i64 a0_8, .int .i64 0, .slice none 0 0, .int .i64 0]) ?_ 9 _ rfl; (with_reducible repeat (first | apply kn_ | apply kd_ | apply ka_)); refine blk_put (cs := #[.int .i64 a0_0, .int .i64 a0_1, .int .i64 a0_2, .int .i64 a0_3, .int .i64 a0_4, .int .i64 a0_5, .int .i64 a0_6, .int .i64 a0_7, .int .i64 0, .int .i64 0, .slice none 0 0, .int .i64 0]) ?_ 8 _ rfl; (with_reducible repeat (first | apply kn_ | apply kd_ | apply ka_)); refine blk_put (cs := #[.int .i64 a0_0, .int .i64 a0_1, .int .i64 a0_2, .int .i64 a0_3, .int .i64 a0_4, .int .i64 a0_5, .int .i64 a0_6, .int .i64 0, .int .i64 0, .int .i64 0, .slice none 0 0, .int .i64 0]) ?_ 7 _ rfl; (with_reducible repeat (first | apply kn_ | apply kd_ | apply ka_)); refine blk_put (cs := #[.int .i64 a0_0, .int .i64 a0_1, .int .i64 a0_2, .int .i64 a0_3, .int .i64 a0_4, .int .i64 a0_5, .int .i64 0, .int .i64 0, .int .i64 0, .int .i64 0, .slice none 0 0, .int .i64 0]) ?_ 6 _ rfl; (with_reducible repeat (first | apply kn_ | apply kd_ | apply ka_)); refine blk_put (cs := #[.int .i64 a0_0, .int .i64 a0_1, .int .i64 a0_2, .int .i64 a0_3, .int .i64 a0_4, .int .i64 0, .int .i64 0, .int .i64 0, .int .i64 0, .int .i64 0, .slice none 0 0, .int .i64 0]) ?_ 5 _ rfl; (with_reducible repeat (first | apply kn_ | apply kd_ | apply ka_)); refine blk_put (cs := #[.int .i64 a0_0, .int .i64 a0_1, .int .i64 a0_2, .int .i64 a0_3, .int .i64 0, .int .i64 0, .int .i64 0, .int .i64 0, .int .i64 0, .int .i64 0, .slice none 0 0, .int .i64 0]) ?_ 4 _ rfl; (with_reducible repeat (first | apply kn_ | apply kd_ | apply ka_)); refine blk_put (cs := #[.int .i64 a0_0, .int .i64 a0_1, .int .i64 a0_2, .int .i64 0, .int .i64 0, .int .i64 0, .int .i64 0, .int .i64 0, .int .i64 0, .int .i64 0, .slice none 0 0, .int .i64 0]) ?_ 3 _ rfl; (with_reducible repeat (first | apply kn_ | apply kd_ | apply ka_)); refine blk_put (cs := #[.int .i64 a0_0, .int .i64 a0_1, .int .i64 0, .int .i64 0, .int .i64 0, .int .i64 0, .int .i64 0, .int .i64 0, .int .i64 0, .int .i64 0, .slice none 0 0, .int .i64 0]) ?_ 2 _ rfl; (with_reducible repeat (first | apply kn_ | apply kd_ | apply ka_)); refine blk_put (cs := #[.int .i64 a0_0, .int .i64 0, .int .i64 0, .int .i64 0, .int .i64 0, .int .i64 0, .int .i64 0, .int .i64 0, .int .i64 0, .int .i64 0, .slice none 0 0, .int .i64 0]) ?_ 1 _ rfl; (with_reducible repeat (first | apply kn_ | apply kd_ | apply ka_)); refine blk_put (cs := #[.int .i64 0, .int .i64 0, .int .i64 0, .int .i64 0, .int .i64 0, .int .i64 0, .int .i64 0, .int .i64 0, .int .i64 0, .int .i64 0, .slice none 0 0, .int .i64 0]) ?_ 0 _ rfl; (with_reducible repeat (first | apply kn_ | apply kd_ | apply ka_)); exact BK419.out) hb); replace HB := am_ (below_step (by repeat (first | (with_reducible first | exact HB.out | apply ba_ | apply bn_ | apply bd_ | refine bs_ ?_ GE401.out | refine bs_ ?_ GE416.out | refine bs_ ?_ GE419.out) | exact HB.out)) hb); (try clear hb); have hcz36_0 : w35.cell? ⟨gb419, 0, none⟩ = some (.int .i64 a0_0) := (blk_cell BK419.out 0).trans rfl; have hcz36_1 : w35.cell? ⟨gb419, 1, none⟩ = some (.int .i64 a0_1) := (blk_cell BK419.out 1).trans rfl; have hcz36_2 : w35.cell? ⟨gb419, 2, none⟩ = some (.int .i64 a0_2) := (blk_cell BK419.out 2).trans rfl; have hcz36_3 : w35.cell? ⟨gb419, 3, none⟩ = some (.int .i64 a0_3) := (blk_cell BK419.out 3).trans rfl; have hcz36_4 : w35.cell? ⟨gb419, 4, none⟩ = some (.int .i64 a0_4) := (blk_cell BK419.out 4).trans rfl; have hcz36_5 : w35.cell? ⟨gb419, 5, none⟩ = some (.int .i64 a0_5) := (blk_cell BK419.out 5).trans rfl; have hcz36_6 : w35.cell? ⟨gb419, 6, none⟩ = some (.int .i64 a0_6) := (blk_cell BK419.out 6).trans rfl; have hcz36_7 : w35.cell? ⟨gb419, 7, none⟩ = some (.int .i64 a0_7) := (blk_cell BK419.out 7).trans rfl; have hcz36_8 : w35.cell? ⟨gb419, 8, none⟩ = some (.int .i64 a0_8) := (blk_cell BK419.out 8).trans rfl; have hcz36_9 : w35.cell? ⟨gb419, 9, none⟩ = some (.int .i64 a0_9) := (blk_cell BK419.out 9).trans rfl; have hcz36_10 : w35.cell? ⟨gb419, 10, none⟩ = some (.slice A0_10 l0_10.length c0_10) := (blk_cell BK419.out 10).trans rfl; have hcz36_11 : w35.cell? ⟨gb419, 11, none⟩ = some (.int .i64 t418) := (blk_cell BK419.out 11).trans rfl; have hfz36_0 := blk_frozen BK419.out 0; have hfz36_1 := blk_frozen BK419.out 1; have hfz36_2 := blk_frozen BK419.out 2; have hfz36_3 := blk_frozen BK419.out 3; have hfz36_4 := blk_frozen BK419.out 4; have hfz36_5 := blk_frozen BK419.out 5; have hfz36_6 := blk_frozen BK419.out 6; have hfz36_7 := blk_frozen BK419.out 7; have hfz36_8 := blk_frozen BK419.out 8; have hfz36_9 := blk_frozen BK419.out 9; have hfz36_10 := blk_frozen BK419.out 10; have hfz36_11 := blk_frozen BK419.out 11) | (go_at_call 65; (with_reducible refine (bound_sound_ends.calls a0_0 a0_1 a0_2 a0_3 a0_4 a0_5 a0_6 a0_7 a0_8 a0_9 _ _ l0_10 t418 _ _ (Kd.C_below HR0_10.out HB.out) HC0_10.out A7.out).mono ?_); rintro e w37 ⟨rfl, hb⟩; replace BK401 := bkb_ BK401 hb; replace BK416 := bkb_ BK416 hb; replace BK419 := bkb_ BK419 hb; replace HB := bst_ HB hb; (try clear hb); have hcz38_0 : w37.cell? ⟨gb419, 0, none⟩ = some (.int .i64 a0_0) := (blk_cell BK419.out 0).trans rfl; have hcz38_1 : w37.cell? ⟨gb419, 1, none⟩ = some (.int .i64 a0_1) := (blk_cell BK419.out 1).trans rfl; have hcz38_2 : w37.cell? ⟨gb419, 2, none⟩ = some (.int .i64 a0_2) := (blk_cell BK419.out 2).trans rfl; have hcz38_3 : w37.cell? ⟨gb419, 3, none⟩ = some (.int .i64 a0_3) := (blk_cell BK419.out 3).trans rfl; have hcz38_4 : w37.cell? ⟨gb419, 4, none⟩ = some (.int .i64 a0_4) := (blk_cell BK419.out 4).trans rfl; have hcz38_5 : w37.cell? ⟨gb419, 5, none⟩ = some (.int .i64 a0_5) := (blk_cell BK419.out 5).trans rfl; have hcz38_6 : w37.cell? ⟨gb419, 6, none⟩ = some (.int .i64 a0_6) := (blk_cell BK419.out 6).trans rfl; have hcz38_7 : w37.cell? ⟨gb419, 7, none⟩ = some (.int .i64 a0_7) := (blk_cell BK419.out 7).trans rfl; have hcz38_8 : w37.cell? ⟨gb419, 8, none⟩ = some (.int .i64 a0_8) := (blk_cell BK419.out 8).trans rfl; have hcz38_9 : w37.cell? ⟨gb419, 9, none⟩ = some (.int .i64 a0_9) := (blk_cell BK419.out 9).trans rfl; have hcz38_10 : w37.cell? ⟨gb419, 10, none⟩ = some (.slice A0_10 l0_10.length c0_10) := (blk_cell BK419.out 10).trans rfl; have hcz38_11 : w37.cell? ⟨gb419, 11, none⟩ = some (.int .i64 t418) := (blk_cell BK419.out 11).trans rfl; have hfz38_0 := blk_frozen BK419.out 0; have hfz38_1 := blk_frozen BK419.out 1; have hfz38_2 := blk_frozen BK419.out 2; have hfz38_3 := blk_frozen BK419.out 3; have hfz38_4 := blk_frozen BK419.out 4; have hfz38_5 := blk_frozen BK419.out 5; have hfz38_6 := blk_frozen BK419.out 6; have hfz38_7 := blk_frozen BK419.out 7; have hfz38_8 := blk_frozen BK419.out 8; have hfz38_9 := blk_frozen BK419.out 9; have hfz38_10 := blk_frozen BK419.out 10; have hfz38_11 := blk_frozen BK419.out 11) | (go_at_call 66; (with_reducible refine (bound_sound_turns.calls a0_0 a0_1 a0_2 a0_3 a0_4 a0_5 a0_6 a0_7 a0_8 a0_9 _ _ l0_10 t418 _ _ (Kd.C_below HR0_10.out HB.out) HC0_10.out A9.out).mono ?_); rintro e w39 ⟨rfl, hb⟩; replace BK401 := bkb_ BK401 hb; replace BK416 := bkb_ BK416 hb; replace BK419 := bkb_ BK419 hb; replace HB := bst_ HB hb; (try clear hb)))
    go_ret
    exact ⟨by first | rfl | (simp [*] <;> rfl), by repeat (first | (with_reducible first | exact HB.out | apply ba_ | apply bn_ | apply bd_ | refine bs_ ?_ GE401.out | refine bs_ ?_ GE416.out | refine bs_ ?_ GE419.out) | exact HB.out)⟩
  ·try go_wp2_with (first | ((with_reducible refine gate_callee (f := 64) rfl ?_); refine gom_ (some 20) Try.func64 (bound_sound_parts.calls a0_0 a0_1 a0_2 a0_3 a0_4 a0_5 a0_6 a0_7 a0_8 a0_9 _ _ l0_10 t418 _ _ ?side1 HC0_10.out A5.out) ?_; (case side1 => exact Kd.C_below HR0_10.out (by repeat (first | (with_reducible first | exact HB.out | apply ba_ | apply bn_ | apply bd_ | refine bs_ ?_ GE401.out | refine bs_ ?_ GE416.out | refine bs_ ?_ GE419.out) | exact HB.out))); rintro e w93 ⟨rfl, hb⟩; refine ⟨_, rfl, ?_⟩; replace BK401 := am_ (blk_below (g := gb401) (o := .cells #[.int .i64 a0_0, .int .i64 a0_1, .int .i64 a0_2, .int .i64 a0_3, .int .i64 a0_4, .int .i64 a0_5, .int .i64 a0_6, .int .i64 a0_7, .int .i64 a0_8, .int .i64 a0_9, .slice A0_10 l0_10.length c0_10] 24 (0, 0)) (by (iterate 12 ((with_reducible repeat (first | apply kn_ | apply kd_ | apply ka_)); refine blk_far ?_ NB401_419.out _)); (with_reducible repeat (first | apply kn_ | apply kd_ | apply ka_)); exact BK401.out) hb); replace BK416 := am_ (blk_below (g := gb416) (o := .cells #[.int .i64 a0_0, .int .i64 a0_1, .int .i64 a0_2, .int .i64 a0_3, .int .i64 a0_4, .int .i64 a0_5, .int .i64 a0_6, .int .i64 a0_7, .int .i64 a0_8, .int .i64 a0_9, .slice A0_10 l0_10.length c0_10] 68 (0, 0)) (by (iterate 12 ((with_reducible repeat (first | apply kn_ | apply kd_ | apply ka_)); refine blk_far ?_ NB416_419.out _)); (with_reducible repeat (first | apply kn_ | apply kd_ | apply ka_)); exact BK416.out) hb); replace BK419 := am_ (blk_below (g := gb419) (o := .cells #[.int .i64 a0_0, .int .i64 a0_1, .int .i64 a0_2, .int .i64 a0_3, .int .i64 a0_4, .int .i64 a0_5, .int .i64 a0_6, .int .i64 a0_7, .int .i64 a0_8, .int .i64 a0_9, .slice A0_10 l0_10.length c0_10, .int .i64 t418] 72 (0, 0)) (by (with_reducible repeat (first | apply kn_ | apply kd_ | apply ka_)); refine blk_put (cs := #[.int .i64 a0_0, .int .i64 a0_1, .int .i64 a0_2, .int .i64 a0_3, .int .i64 a0_4, .int .i64 a0_5, .int .i64 a0_6, .int .i64 a0_7, .int .i64 a0_8, .int .i64 a0_9, .slice A0_10 l0_10.length c0_10, .int .i64 0]) ?_ 11 _ rfl; (with_reducible repeat (first | apply kn_ | apply kd_ | apply ka_)); refine blk_put (cs := #[.int .i64 a0_0, .int .i64 a0_1, .int .i64 a0_2, .int .i64 a0_3, .int .i64 a0_4, .int .i64 a0_5, .int .i64 a0_6, .int .i64 a0_7, .int .i64 a0_8, .int .i64 a0_9, .slice none 0 0, .int .i64 0]) ?_ 10 _ rfl; (with_reducible repeat (first | apply kn_ | apply kd_ | apply ka_)); refine blk_put (cs := #[.int .i64 a0_0, .int .i64 a0_1, .int .i64 a0_2, .int .i64 a0_3, .int .i64 a0_4, .int .i64 a0_5, .int .i64 a0_6, .int .i64 a0_7, .int .i64 a0_8, .int .i64 0, .slice none 0 0, .int .i64 0]) ?_ 9 _ rfl; (with_reducible repeat (first | apply kn_ | apply kd_ | apply ka_)); refine blk_put (cs := #[.int .i64 a0_0, .int .i64 a0_1, .int .i64 a0_2, .int .i64 a0_3, .int .i64 a0_4, .int .i64 a0_5, .int .i64 a0_6, .int .i64 a0_7, .int .i64 0, .int .i64 0, .slice none 0 0, .int .i64 0]) ?_ 8 _ rfl; (with_reducible repeat (first | apply kn_ | apply kd_ | apply ka_)); refine blk_put (cs := #[.int .i64 a0_0, .int .i64 a0_1, .int .i64 a0_2, .int .i64 a0_3, .int .i64 a0_4, .int .i64 a0_5, .int .i64 a0_6, .int .i64 0, .int .i64 0, .int .i64 0, .slice none 0 0, .int .i64 0]) ?_ 7 _ rfl; (with_reducible repeat (first | apply kn_ | apply kd_ | apply ka_)); refine blk_put (cs := #[.int .i64 a0_0, .int .i64 a0_1, .int .i64 a0_2, .int .i64 a0_3, .int .i64 a0_4, .int .i64 a0_5, .int .i64 0, .int .i64 0, .int .i64 0, .int .i64 0, .slice none 0 0, .int .i64 0]) ?_ 6 _ rfl; (with_reducible repeat (first | apply kn_ | apply kd_ | apply ka_)); refine blk_put (cs := #[.int .i64 a0_0, .int .i64 a0_1, .int .i64 a0_2, .int .i64 a0_3, .int .i64 a0_4, .int .i64 0, .int .i64 0, .int .i64 0, .int .i64 0, .int .i64 0, .slice none 0 0, .int .i64 0]) ?_ 5 _ rfl; (with_reducible repeat (first | apply kn_ | apply kd_ | apply ka_)); refine blk_put (cs := #[.int .i64 a0_0, .int .i64 a0_1, .int .i64 a0_2, .int .i64 a0_3, .int .i64 0, .int .i64 0, .int .i64 0, .int .i64 0, .int .i64 0, .int .i64 0, .slice none 0 0, .int .i64 0]) ?_ 4 _ rfl; (with_reducible repeat (first | apply kn_ | apply kd_ | apply ka_)); refine blk_put (cs := #[.int .i64 a0_0, .int .i64 a0_1, .int .i64 a0_2, .int .i64 0, .int .i64 0, .int .i64 0, .int .i64 0, .int .i64 0, .int .i64 0, .int .i64 0, .slice none 0 0, .int .i64 0]) ?_ 3 _ rfl; (with_reducible repeat (first | apply kn_ | apply kd_ | apply ka_)); refine blk_put (cs := #[.int .i64 a0_0, .int .i64 a0_1, .int .i64 0, .int .i64 0, .int .i64 0, .int .i64 0, .int .i64 0, .int .i64 0, .int .i64 0, .int .i64 0, .slice none 0 0, .int .i64 0]) ?_ 2 _ rfl; (with_reducible repeat (first | apply kn_ | apply kd_ | apply ka_)); refine blk_put (cs := #[.int .i64 a0_0, .int .i64 0, .int .i64 0, .int .i64 0, .int .i64 0, .int .i64 0, .int .i64 0, .int .i64 0, .int .i64 0, .int .i64 0, .slice none 0 0, .int .i64 0]) ?_ 1 _ rfl; (with_reducible repeat (first | apply kn_ | apply kd_ | apply ka_)); refine blk_put (cs := #[.int .i64 0, .int .i64 0, .int .i64 0, .int .i64 0, .int .i64 0, .int .i64 0, .int .i64 0, .int .i64 0, .int .i64 0, .int .i64 0, .slice none 0 0, .int .i64 0]) ?_ 0 _ rfl; (with_reducible repeat (first | apply kn_ | apply kd_ | apply ka_)); exact BK419.out) hb); replace HB := am_ (below_step (by repeat (first | (with_reducible first | exact HB.out | apply ba_ | apply bn_ | apply bd_ | refine bs_ ?_ GE401.out | refine bs_ ?_ GE416.out | refine bs_ ?_ GE419.out) | exact HB.out)) hb); (try clear hb); have hcz94_0 : w93.cell? ⟨gb419, 0, none⟩ = some (.int .i64 a0_0) := (blk_cell BK419.out 0).trans rfl; have hcz94_1 : w93.cell? ⟨gb419, 1, none⟩ = some (.int .i64 a0_1) := (blk_cell BK419.out 1).trans rfl; have hcz94_2 : w93.cell? ⟨gb419, 2, none⟩ = some (.int .i64 a0_2) := (blk_cell BK419.out 2).trans rfl; have hcz94_3 : w93.cell? ⟨gb419, 3, none⟩ = some (.int .i64 a0_3) := (blk_cell BK419.out 3).trans rfl; have hcz94_4 : w93.cell? ⟨gb419, 4, none⟩ = some (.int .i64 a0_4) := (blk_cell BK419.out 4).trans rfl; have hcz94_5 : w93.cell? ⟨gb419, 5, none⟩ = some (.int .i64 a0_5) := (blk_cell BK419.out 5).trans rfl; have hcz94_6 : w93.cell? ⟨gb419, 6, none⟩ = some (.int .i64 a0_6) := (blk_cell BK419.out 6).trans rfl; have hcz94_7 : w93.cell? ⟨gb419, 7, none⟩ = some (.int .i64 a0_7) := (blk_cell BK419.out 7).trans rfl; have hcz94_8 : w93.cell? ⟨gb419, 8, none⟩ = some (.int .i64 a0_8) := (blk_cell BK419.out 8).trans rfl; have hcz94_9 : w93.cell? ⟨gb419, 9, none⟩ = some (.int .i64 a0_9) := (blk_cell BK419.out 9).trans rfl; have hcz94_10 : w93.cell? ⟨gb419, 10, none⟩ = some (.slice A0_10 l0_10.length c0_10) := (blk_cell BK419.out 10).trans rfl; have hcz94_11 : w93.cell? ⟨gb419, 11, none⟩ = some (.int .i64 t418) := (blk_cell BK419.out 11).trans rfl; have hfz94_0 := blk_frozen BK419.out 0; have hfz94_1 := blk_frozen BK419.out 1; have hfz94_2 := blk_frozen BK419.out 2; have hfz94_3 := blk_frozen BK419.out 3; have hfz94_4 := blk_frozen BK419.out 4; have hfz94_5 := blk_frozen BK419.out 5; have hfz94_6 := blk_frozen BK419.out 6; have hfz94_7 := blk_frozen BK419.out 7; have hfz94_8 := blk_frozen BK419.out 8; have hfz94_9 := blk_frozen BK419.out 9; have hfz94_10 := blk_frozen BK419.out 10; have hfz94_11 := blk_frozen BK419.out 11) | (go_at_call 65; (with_reducible refine (bound_sound_ends.calls a0_0 a0_1 a0_2 a0_3 a0_4 a0_5 a0_6 a0_7 a0_8 a0_9 _ _ l0_10 t418 _ _ (Kd.C_below HR0_10.out HB.out) HC0_10.out A7.out).mono ?_); rintro e w95 ⟨rfl, hb⟩; replace BK401 := bkb_ BK401 hb; replace BK416 := bkb_ BK416 hb; replace BK419 := bkb_ BK419 hb; replace HB := bst_ HB hb; (try clear hb)))
   go_ret
   exact ⟨by first | rfl | (simp [*] <;> rfl), by repeat (first | (with_reducible first | exact HB.out | apply ba_ | apply bn_ | apply bd_ | refine bs_ ?_ GE401.out | refine bs_ ?_ GE416.out | refine bs_ ?_ GE419.out) | exact HB.out)⟩
  ·try go_wp2_with (first | ((with_reducible refine gate_callee (f := 64) rfl ?_); refine gom_ (some 20) Try.func64 (bound_sound_parts.calls a0_0 a0_1 a0_2 a0_3 a0_4 a0_5 a0_6 a0_7 a0_8 a0_9 _ _ l0_10 t418 _ _ ?side1 HC0_10.out A5.out) ?_; (case side1 => exact Kd.C_below HR0_10.out (by repeat (first | (with_reducible first | exact HB.out | apply ba_ | apply bn_ | apply bd_ | refine bs_ ?_ GE401.out | refine bs_ ?_ GE416.out | refine bs_ ?_ GE419.out) | exact HB.out))); rintro e w120 ⟨rfl, hb⟩; refine ⟨_, rfl, ?_⟩; replace BK401 := am_ (blk_below (g := gb401) (o := .cells #[.int .i64 a0_0, .int .i64 a0_1, .int .i64 a0_2, .int .i64 a0_3, .int .i64 a0_4, .int .i64 a0_5, .int .i64 a0_6, .int .i64 a0_7, .int .i64 a0_8, .int .i64 a0_9, .slice A0_10 l0_10.length c0_10] 24 (0, 0)) (by (iterate 12 ((with_reducible repeat (first | apply kn_ | apply kd_ | apply ka_)); refine blk_far ?_ NB401_419.out _)); (with_reducible repeat (first | apply kn_ | apply kd_ | apply ka_)); exact BK401.out) hb); replace BK416 := am_ (blk_below (g := gb416) (o := .cells #[.int .i64 a0_0, .int .i64 a0_1, .int .i64 a0_2, .int .i64 a0_3, .int .i64 a0_4, .int .i64 a0_5, .int .i64 a0_6, .int .i64 a0_7, .int .i64 a0_8, .int .i64 a0_9, .slice A0_10 l0_10.length c0_10] 68 (0, 0)) (by (iterate 12 ((with_reducible repeat (first | apply kn_ | apply kd_ | apply ka_)); refine blk_far ?_ NB416_419.out _)); (with_reducible repeat (first | apply kn_ | apply kd_ | apply ka_)); exact BK416.out) hb); replace BK419 := am_ (blk_below (g := gb419) (o := .cells #[.int .i64 a0_0, .int .i64 a0_1, .int .i64 a0_2, .int .i64 a0_3, .int .i64 a0_4, .int .i64 a0_5, .int .i64 a0_6, .int .i64 a0_7, .int .i64 a0_8, .int .i64 a0_9, .slice A0_10 l0_10.length c0_10, .int .i64 t418] 72 (0, 0)) (by (with_reducible repeat (first | apply kn_ | apply kd_ | apply ka_)); refine blk_put (cs := #[.int .i64 a0_0, .int .i64 a0_1, .int .i64 a0_2, .int .i64 a0_3, .int .i64 a0_4, .int .i64 a0_5, .int .i64 a0_6, .int .i64 a0_7, .int .i64 a0_8, .int .i64 a0_9, .slice A0_10 l0_10.length c0_10, .int .i64 0]) ?_ 11 _ rfl; (with_reducible repeat (first | apply kn_ | apply kd_ | apply ka_)); refine blk_put (cs := #[.int .i64 a0_0, .int .i64 a0_1, .int .i64 a0_2, .int .i64 a0_3, .int .i64 a0_4, .int .i64 a0_5, .int .i64 a0_6, .int .i64 a0_7, .int .i64 a0_8, .int .i64 a0_9, .slice none 0 0, .int .i64 0]) ?_ 10 _ rfl; (with_reducible repeat (first | apply kn_ | apply kd_ | apply ka_)); refine blk_put (cs := #[.int .i64 a0_0, .int .i64 a0_1, .int .i64 a0_2, .int .i64 a0_3, .int .i64 a0_4, .int .i64 a0_5, .int .i64 a0_6, .int .i64 a0_7, .int .i64 a0_8, .int .i64 0, .slice none 0 0, .int .i64 0]) ?_ 9 _ rfl; (with_reducible repeat (first | apply kn_ | apply kd_ | apply ka_)); refine blk_put (cs := #[.int .i64 a0_0, .int .i64 a0_1, .int .i64 a0_2, .int .i64 a0_3, .int .i64 a0_4, .int .i64 a0_5, .int .i64 a0_6, .int .i64 a0_7, .int .i64 0, .int .i64 0, .slice none 0 0, .int .i64 0]) ?_ 8 _ rfl; (with_reducible repeat (first | apply kn_ | apply kd_ | apply ka_)); refine blk_put (cs := #[.int .i64 a0_0, .int .i64 a0_1, .int .i64 a0_2, .int .i64 a0_3, .int .i64 a0_4, .int .i64 a0_5, .int .i64 a0_6, .int .i64 0, .int .i64 0, .int .i64 0, .slice none 0 0, .int .i64 0]) ?_ 7 _ rfl; (with_reducible repeat (first | apply kn_ | apply kd_ | apply ka_)); refine blk_put (cs := #[.int .i64 a0_0, .int .i64 a0_1, .int .i64 a0_2, .int .i64 a0_3, .int .i64 a0_4, .int .i64 a0_5, .int .i64 0, .int .i64 0, .int .i64 0, .int .i64 0, .slice none 0 0, .int .i64 0]) ?_ 6 _ rfl; (with_reducible repeat (first | apply kn_ | apply kd_ | apply ka_)); refine blk_put (cs := #[.int .i64 a0_0, .int .i64 a0_1, .int .i64 a0_2, .int .i64 a0_3, .int .i64 a0_4, .int .i64 0, .int .i64 0, .int .i64 0, .int .i64 0, .int .i64 0, .slice none 0 0, .int .i64 0]) ?_ 5 _ rfl; (with_reducible repeat (first | apply kn_ | apply kd_ | apply ka_)); refine blk_put (cs := #[.int .i64 a0_0, .int .i64 a0_1, .int .i64 a0_2, .int .i64 a0_3, .int .i64 0, .int .i64 0, .int .i64 0, .int .i64 0, .int .i64 0, .int .i64 0, .slice none 0 0, .int .i64 0]) ?_ 4 _ rfl; (with_reducible repeat (first | apply kn_ | apply kd_ | apply ka_)); refine blk_put (cs := #[.int .i64 a0_0, .int .i64 a0_1, .int .i64 a0_2, .int .i64 0, .int .i64 0, .int .i64 0, .int .i64 0, .int .i64 0, .int .i64 0, .int .i64 0, .slice none 0 0, .int .i64 0]) ?_ 3 _ rfl; (with_reducible repeat (first | apply kn_ | apply kd_ | apply ka_)); refine blk_put (cs := #[.int .i64 a0_0, .int .i64 a0_1, .int .i64 0, .int .i64 0, .int .i64 0, .int .i64 0, .int .i64 0, .int .i64 0, .int .i64 0, .int .i64 0, .slice none 0 0, .int .i64 0]) ?_ 2 _ rfl; (with_reducible repeat (first | apply kn_ | apply kd_ | apply ka_)); refine blk_put (cs := #[.int .i64 a0_0, .int .i64 0, .int .i64 0, .int .i64 0, .int .i64 0, .int .i64 0, .int .i64 0, .int .i64 0, .int .i64 0, .int .i64 0, .slice none 0 0, .int .i64 0]) ?_ 1 _ rfl; (with_reducible repeat (first | apply kn_ | apply kd_ | apply ka_)); refine blk_put (cs := #[.int .i64 0, .int .i64 0, .int .i64 0, .int .i64 0, .int .i64 0, .int .i64 0, .int .i64 0, .int .i64 0, .int .i64 0, .int .i64 0, .slice none 0 0, .int .i64 0]) ?_ 0 _ rfl; (with_reducible repeat (first | apply kn_ | apply kd_ | apply ka_)); exact BK419.out) hb); replace HB := am_ (below_step (by repeat (first | (with_reducible first | exact HB.out | apply ba_ | apply bn_ | apply bd_ | refine bs_ ?_ GE401.out | refine bs_ ?_ GE416.out | refine bs_ ?_ GE419.out) | exact HB.out)) hb); (try clear hb)))
   go_ret
   exact ⟨by first | rfl | (simp [*] <;> rfl), by repeat (first | (with_reducible first | exact HB.out | apply ba_ | apply bn_ | apply bd_ | refine bs_ ?_ GE401.out | refine bs_ ?_ GE416.out | refine bs_ ?_ GE419.out) | exact HB.out)⟩
 ·replace c3 := Bool.eq_false_iff.mpr c3
  subst c3
  rw [if_neg (show ¬ (false = true) by decide)] at H
  replace H := Option.bind_eq_some_iff.mp H
  obtain ⟨t417, A1210, H⟩ := H
  replace H : (some t417) = some r := H
  have A121 := am_ A1210
  clear A1210
  obtain rfl := Option.some.inj H
  go_enter Try.func37, Try.ntmps37
  go_wp2_with (first | ((with_reducible refine gate_dst (N := 1) rfl ?_); refine bxe_ 1 24 #[.int .i64 a0_0, .int .i64 a0_1, .int .i64 a0_2, .int .i64 a0_3, .int .i64 a0_4, .int .i64 a0_5, .int .i64 a0_6, .int .i64 a0_7, .int .i64 a0_8, .int .i64 a0_9, .slice A0_10 l0_10.length c0_10] ?_; intro gb401 hg w122 hbox hb; have BK401 := am_ (hbox); have GW401 := gwk_ HB hg; have GE401 := GW401; replace HB := bst_ HB hb; clear hb hbox hg; have hcz123 := cells_11 BK401.out; have hfz123 := frozen_11 BK401.out) | ((with_reducible refine gate_callee (f := 62) rfl ?_); refine gom_ (some 8) Try.func62 (bound_of.calls k a0_0 a0_1 a0_2 a0_3 a0_4 a0_5 a0_6 a0_7 a0_8 a0_9 _ _ l0_10 _ _ (Kd.C_below HR0_10.out HB.out) HC0_10.out A2.out) ?_; rintro e w124 ⟨rfl, hb⟩; refine ⟨_, rfl, ?_⟩; replace BK401 := bkb_ BK401 hb; replace HB := bst_ HB hb; (try clear hb)) | ((with_reducible refine gate_dst (N := 3) rfl ?_); refine bxe_ 3 68 #[.int .i64 0, .int .i64 0, .int .i64 0, .int .i64 0, .int .i64 0, .int .i64 0, .int .i64 0, .int .i64 0, .int .i64 0, .int .i64 0, .slice none 0 0] ?_; intro gb416 hg w125 hbox hb; have BK416 := am_ (hbox); have GW416 := gwk_ HB hg; have GE416 := GW416; replace HB := bst_ HB hb; have NB401_416 := nbk_ BK401 hg; have NB416_401 := nbs_ NB401_416; replace BK401 := bkb_ BK401 hb; clear hb hbox hg) | ((with_reducible refine gate_store (t := 68) (p := 3) rfl ?_); refine row_store_event (t := 68) (p := 3) (v := ?vo_w126) ?hgd ?ho ?hn gb416 #[.int .i64 a0_0, .int .i64 a0_1, .int .i64 a0_2, .int .i64 a0_3, .int .i64 a0_4, .int .i64 a0_5, .int .i64 a0_6, .int .i64 a0_7, .int .i64 a0_8, .int .i64 a0_9, .slice A0_10 l0_10.length c0_10] ?hx ?hy 68 #[.int .i64 0, .int .i64 0, .int .i64 0, .int .i64 0, .int .i64 0, .int .i64 0, .int .i64 0, .int .i64 0, .int .i64 0, .int .i64 0, .slice none 0 0] ?hg ?hi ?hold ?h1 ?_; (case hgd => rfl); (case ho => rfl); (case hn => rfl); (case hx => rfl); (case hy => rfl); (case hg => exact (by (with_reducible repeat (first | apply kn_ | apply kd_ | apply ka_)); exact BK416.out)); (case hi => kernel_rfl); (case hold => rfl); (case h1 => (first | kernel_rfl | simp [Value.oneCell'])); intro w126 hw; have n0_ : Aside0 (w126.heap[gb401]? = some (.cells #[.int .i64 a0_0, .int .i64 a0_1, .int .i64 a0_2, .int .i64 a0_3, .int .i64 a0_4, .int .i64 a0_5, .int .i64 a0_6, .int .i64 a0_7, .int .i64 a0_8, .int .i64 a0_9, .slice A0_10 l0_10.length c0_10] 24 (0, 0))) := ⟨(by rw [hw]; exact (by (with_reducible repeat (first | apply kn_ | apply kd_ | apply ka_)); refine blk_farc ?_ NB401_416.out; (with_reducible repeat (first | apply kn_ | apply kd_ | apply ka_)); exact BK401.out))⟩; have n1_ : Aside0 (w126.heap[gb416]? = some (.cells #[.int .i64 a0_0, .int .i64 a0_1, .int .i64 a0_2, .int .i64 a0_3, .int .i64 a0_4, .int .i64 a0_5, .int .i64 a0_6, .int .i64 a0_7, .int .i64 a0_8, .int .i64 a0_9, .slice A0_10 l0_10.length c0_10] 68 (0, 0))) := ⟨(by rw [hw]; exact (by (with_reducible repeat (first | apply kn_ | apply kd_ | apply ka_)); refine setRow_heap _ _ #[.int .i64 0, .int .i64 0, .int .i64 0, .int .i64 0, .int .i64 0, .int .i64 0, .int .i64 0, .int .i64 0, .int .i64 0, .int .i64 0, .slice none 0 0] _ 68 (0, 0) ?_; (with_reducible repeat (first | apply kn_ | apply kd_ | apply ka_)); exact BK416.out))⟩; have n2_ : Aside0 (Below w.heap.size w w126) := ⟨(by rw [hw]; exact (by repeat (first | (with_reducible first | exact HB.out | refine below_setc ?_ GE416.out | apply below_alloc | apply pw_below_drewN | apply below_drew1 | refine bs_ ?_ GE401.out | refine bs_ ?_ GE416.out) | exact HB.out)))⟩; clear hw; clear BK401; clear BK416; clear HB; have BK401 := n0_; have BK416 := n1_; have HB := n2_; clear n0_ n1_ n2_; have hnb127 := NB401_416.out; have hnc127 := NB416_401.out; have hcz128 := cells_11 BK401.out; have hfz128 := frozen_11 BK401.out) | ((with_reducible refine gate_callee (f := 54) rfl ?_); refine gom_ (some 14) Try.func54 (conf_Plain.calls k a0_0 a0_1 a0_2 a0_3 a0_4 a0_5 a0_6 a0_7 a0_8 a0_9 _ _ l0_10 _ _ (Kd.C_below HR0_10.out HB.out) HC0_10.out A121.out) ?_; rintro e w129 ⟨rfl, hb⟩; refine ⟨_, rfl, ?_⟩; replace BK401 := bkb_ BK401 hb; replace BK416 := bkb_ BK416 hb; replace HB := bst_ HB hb; (try clear hb)))
  go_ret
  exact ⟨by first | rfl | (simp [*] <;> rfl), by repeat (first | (with_reducible first | exact HB.out | apply ba_ | apply bn_ | apply bd_ | refine bs_ ?_ GE401.out | refine bs_ ?_ GE416.out) | exact HB.out)⟩
end Go.Proofs.Ythdoghhmooodjaa.Gn
