import Derived.Test.YthdoghhmooodjaaZPremiseAfterGn0
import Derived.Test.YthdoghhmooodjaaZPremiseAfterGn1
import Derived.Test.YthdoghhmooodjaaZPremiseAfterGn4
import Derived.Test.YthdoghhmooodjaaZPremiseAfterGn46
import Derived.Test.YthdoghhmooodjaaZPremiseAfterGn16
import Derived.Test.YthdoghhmooodjaaZPremiseAfterGn44
namespace Go.Proofs.Ythdoghhmooodjaa.Gn
open Go.RowKit Go.Proofs.YthdoghhmooodjaaW.PrintWords Go.Proofs.YthdoghhmooodjaaW.PrintLast Go.Proofs.YthdoghhmooodjaaW.PrintMore
attribute [local go_sem] max2_int min2_int max_two min_two max_three min_three max_four min_four   -- for this text's walks alone
set_option linter.unusedVariables false
set_option linter.unusedSimpArgs false
def bound_All.f (k : Nat) (B2 B3 B4 B1 B5 B6 B7 B8 B9 Ba : Int) (B0 : List Int) : Option (Int) := (bound_of.f k B2 B3 B4 B1 B5 B6 B7 B8 B9 Ba B0).bind fun Bb => (if Bb = true then ((bound_Settle.f k B2 B3 B4 B1 B5 B6 B7 B8 B9 Ba B0).bind fun Bc => (some (wrap64 (Bc + (wrap64 (4 * B1)))))) else (some 0))
theorem bound_All.mono : ∀ a0 a1 a2 a3 a4 a5 a6 a7 a8 a9 B0 k, LeO (bound_All.f k a0 a1 a2 a3 a4 a5 a6 a7 a8 a9 B0) (bound_All.f (k + 1) a0 a1 a2 a3 a4 a5 a6 a7 a8 a9 B0) := by
 intro a0 a1 a2 a3 a4 a5 a6 a7 a8 a9 B0 k
 unfold bound_All.f
 repeat' first
   | (with_reducible exact bound_Settle.mono _ _ _ _ _ _ _ _ _ _ _ _)
   | (with_reducible exact bound_of.mono _ _ _ _ _ _ _ _ _ _ _ _)
   | (with_reducible exact LeO.refl _)
   | (with_reducible exact LeO.none _)
   | (with_reducible refine LeO.ite ?_ ?_)
   | (with_reducible refine LeO.bind ?_ (fun _ => ?_))
   | exact bound_Settle.mono _ _ _ _ _ _ _ _ _ _ _ _
   | exact bound_of.mono _ _ _ _ _ _ _ _ _ _ _ _
   | exact LeO.none _
   | refine LeO.ite ?_ ?_
   | refine LeO.bind ?_ (fun _ => ?_)
set_option maxHeartbeats 8000000 in
set_option maxRecDepth 100000 in
theorem bound_All.calls (k : Nat) (B7 B8 B9 Ba Bb Bc Bd Be Bf Bg : Int) (B5 : Option Addr) (B6 : Nat) (B1 : List Int) (r : Int) (w : World) (Bn : Kd.C (Kd.int .i64) w B5 B1.length B1) (Bo : B1.length ≤ B6) (h : bound_All.f k B7 B8 B9 Ba Bb Bc Bd Be Bf Bg B1 = some r) :
  Calls Try.prog 60 #[.agg #[.int .i64 B7, .int .i64 B8, .int .i64 B9, .int .i64 Ba, .int .i64 Bb, .int .i64 Bc, .int .i64 Bd, .int .i64 Be, .int .i64 Bf, .int .i64 Bg, .slice B5 B1.length B6]] w fun e w' => e = .returned (.int .i64 r) ∧ Below w.heap.size w w' := by
 have Bx := Try.underlying24
 have By := Try.underlying68
 have Bk := am_ Bn
 have Bl := am_ Bo
 clear Bn Bo
 have HB := am_ (Below.refl w.heap.size w)
 have H := h
 unfold bound_All.f at H
 clear h
 obtain ⟨Bu, A2, H⟩ := bes_ H
 try dsimp only at H
 by_cases c3 : Bu = true
 ·subst c3
  rw [if_pos rfl] at H
  obtain ⟨Bz, A4, H⟩ := bes_ H
  try dsimp only at H
  obtain rfl := Option.some.inj H
  go_enter Try.func60, Try.ntmps60
  try go_wp2_with (first | ((with_reducible refine gate_dst (N := 1) rfl ?_); refine bxe_ 1 24 #[.int .i64 B7, .int .i64 B8, .int .i64 B9, .int .i64 Ba, .int .i64 Bb, .int .i64 Bc, .int .i64 Bd, .int .i64 Be, .int .i64 Bf, .int .i64 Bg, .slice B5 B1.length B6] ?_; intro B2 hg w5 hbox hb; have B0 := am_ (hbox); have Bp := gwk_ HB hg; have Bi := Bp; replace HB := bst_ HB hb; clear hb hbox hg; have D0 := cells_11 B0.out; have D1 := frozen_11 B0.out) | ((with_reducible refine gate_callee (f := 62) rfl ?_); refine gom_ (some 7) Try.func62 (bound_of.calls k B7 B8 B9 Ba Bb Bc Bd Be Bf Bg _ _ B1 _ _ (Kd.C_below Bk.out HB.out) Bl.out A2.out) ?_; rintro e w7 ⟨rfl, hb⟩; refine ⟨_, rfl, ?_⟩; replace B0 := bkb_ B0 hb; replace HB := bst_ HB hb; (try clear hb)) | ((with_reducible refine gate_dst (N := 3) rfl ?_); refine bxe_ 3 68 #[.int .i64 0, .int .i64 0, .int .i64 0, .int .i64 0, .int .i64 0, .int .i64 0, .int .i64 0, .int .i64 0, .int .i64 0, .int .i64 0, .slice none 0 0] ?_; intro Bj hg w8 hbox hb; have B3 := am_ (hbox); have Bq := gwk_ HB hg; have Bh := Bq; replace HB := bst_ HB hb; have B4 := nbk_ B0 hg; have Bm := nbs_ B4; replace B0 := bkb_ B0 hb; clear hb hbox hg) | ((with_reducible refine gate_store (t := 68) (p := 3) rfl ?_); refine row_store_event (t := 68) (p := 3) (v := ?vo_w9) ?hgd ?ho ?hn Bj #[.int .i64 B7, .int .i64 B8, .int .i64 B9, .int .i64 Ba, .int .i64 Bb, .int .i64 Bc, .int .i64 Bd, .int .i64 Be, .int .i64 Bf, .int .i64 Bg, .slice B5 B1.length B6] ?hx ?hy 68 #[.int .i64 0, .int .i64 0, .int .i64 0, .int .i64 0, .int .i64 0, .int .i64 0, .int .i64 0, .int .i64 0, .int .i64 0, .int .i64 0, .slice none 0 0] ?hg ?hi ?hold ?h1 ?_; (case hgd => rfl); (case ho => rfl); (case hn => rfl); (case hx => rfl); (case hy => rfl); (case hg => exact (by (with_reducible repeat (first | apply kn_ | apply kd_ | apply ka_)); exact B3.out)); (case hi => kernel_rfl); (case hold => rfl); (case h1 => (first | kernel_rfl | simp [Value.oneCell'])); intro w9 hw; have Br : Aside0 (w9.heap[B2]? = some (.cells #[.int .i64 B7, .int .i64 B8, .int .i64 B9, .int .i64 Ba, .int .i64 Bb, .int .i64 Bc, .int .i64 Bd, .int .i64 Be, .int .i64 Bf, .int .i64 Bg, .slice B5 B1.length B6] 24 (0, 0))) := ⟨(by rw [hw]; exact (by (with_reducible repeat (first | apply kn_ | apply kd_ | apply ka_)); refine blk_farc ?_ B4.out; (with_reducible repeat (first | apply kn_ | apply kd_ | apply ka_)); exact B0.out))⟩; have Bs : Aside0 (w9.heap[Bj]? = some (.cells #[.int .i64 B7, .int .i64 B8, .int .i64 B9, .int .i64 Ba, .int .i64 Bb, .int .i64 Bc, .int .i64 Bd, .int .i64 Be, .int .i64 Bf, .int .i64 Bg, .slice B5 B1.length B6] 68 (0, 0))) := ⟨(by rw [hw]; exact (by (with_reducible repeat (first | apply kn_ | apply kd_ | apply ka_)); refine setRow_heap _ _ #[.int .i64 0, .int .i64 0, .int .i64 0, .int .i64 0, .int .i64 0, .int .i64 0, .int .i64 0, .int .i64 0, .int .i64 0, .int .i64 0, .slice none 0 0] _ 68 (0, 0) ?_; (with_reducible repeat (first | apply kn_ | apply kd_ | apply ka_)); exact B3.out))⟩; have Bt : Aside0 (Below w.heap.size w w9) := ⟨(by rw [hw]; exact (by repeat (first | (with_reducible first | exact HB.out | refine below_setc ?_ Bh.out | apply below_alloc | apply pw_below_drewN | apply below_drew1 | refine bs_ ?_ Bi.out | refine bs_ ?_ Bh.out) | exact HB.out)))⟩; clear hw; clear B0; clear B3; clear HB; have B0 := Br; have B3 := Bs; have HB := Bt; clear Br Bs Bt))
  replace B0 := am_ (blk_drew B0.out)
  replace B3 := am_ (blk_drew B3.out)
  replace HB := am_ (below_drew1 HB.out)
  refine start_ (n := 7) (S := fun w' => ce_ w' B2 0 (.int .i64 B7) ∧ ce_ w' B2 1 (.int .i64 B8) ∧ ce_ w' B2 2 (.int .i64 B9) ∧ ce_ w' B2 3 (.int .i64 Ba) ∧ ce_ w' B2 4 (.int .i64 Bb) ∧ ce_ w' B2 5 (.int .i64 Bc) ∧ ce_ w' B2 6 (.int .i64 Bd) ∧ ce_ w' B2 7 (.int .i64 Be) ∧ ce_ w' B2 8 (.int .i64 Bf) ∧ ce_ w' B2 9 (.int .i64 Bg) ∧ ce_ w' B2 10 (.slice B5 B1.length B6)) (ds := []) #[false, false, false, false, false, false, false] (by kernel_rfl) rfl rfl ⟨(blk_cell B0.out 0).trans rfl, (blk_cell B0.out 1).trans rfl, (blk_cell B0.out 2).trans rfl, (blk_cell B0.out 3).trans rfl, (blk_cell B0.out 4).trans rfl, (blk_cell B0.out 5).trans rfl, (blk_cell B0.out 6).trans rfl, (blk_cell B0.out 7).trans rfl, (blk_cell B0.out 8).trans rfl, (blk_cell B0.out 9).trans rfl, (blk_cell B0.out 10).trans rfl⟩ (fun hHeld => ?_)
  generalize w9.drew = w10 at B0 B3 HB hHeld ⊢
  refine pur_ 2 (some 14) rfl rfl (by kernel_rfl) ?_
  refine tak_ 0 (some 12) rfl rfl (by kernel_rfl) hHeld ?_ (by rintro w' ⟨s0, s1, s2, s3, s4, s5, s6, s7, s8, s9, s10⟩; go_simp; with_reducible rfl)
  refine tak_ 3 (some 15) rfl rfl (by kernel_rfl) hHeld ?_ (by rintro w' ⟨s0, s1, s2, s3, s4, s5, s6, s7, s8, s9, s10⟩; go_simp; with_reducible rfl)
  refine pur_ 4 (some 16) rfl rfl (by kernel_rfl) ?_
  refine oon_ 1 (some 13) rfl rfl (by kernel_rfl) (fun K hK => ?_)
  refine gos_ Try.func58 (bound_Settle.calls k B7 B8 B9 Ba Bb Bc Bd Be Bf Bg _ _ B1 _ _ (Kd.C_below Bk.out HB.out) Bl.out A4.out) ?_
  rintro e w11 ⟨rfl, hb⟩
  refine ⟨_, rfl, ?_⟩
  replace B0 := bkb_ B0 hb
  replace B3 := bkb_ B3 hb
  replace HB := bst_ HB hb
  (try clear hb)
  (try clear hb2)
  (try clear hk)
  (try clear hi)
  refine hK.out _ _ (cells_11 B0.out) (fun hHeld => ?_)
  clear hK K
  refine nor_ 13 ?_
  refine pur_ 5 (some 17) rfl rfl (by kernel_rfl) ?_
  refine pur_ 6 (some 2) rfl rfl (by kernel_rfl) ?_
  refine done_ (by kernel_rfl) ?_
  try go_wp2
  go_ret
  exact ⟨by first | rfl | (simp [*] <;> rfl), by repeat (first | (with_reducible first | exact HB.out | apply ba_ | apply bn_ | apply bd_ | refine bs_ ?_ Bi.out | refine bs_ ?_ Bh.out) | exact HB.out)⟩
 ·replace c3 := Bool.eq_false_iff.mpr c3
  subst c3
  rw [if_neg (show ¬ (false = true) by decide)] at H
  obtain rfl := Option.some.inj H
  go_enter Try.func60, Try.ntmps60
  go_wp2_with (first | ((with_reducible refine gate_dst (N := 1) rfl ?_); refine bxe_ 1 24 #[.int .i64 B7, .int .i64 B8, .int .i64 B9, .int .i64 Ba, .int .i64 Bb, .int .i64 Bc, .int .i64 Bd, .int .i64 Be, .int .i64 Bf, .int .i64 Bg, .slice B5 B1.length B6] ?_; intro B2 hg w12 hbox hb; have B0 := am_ (hbox); have Bp := gwk_ HB hg; have Bi := Bp; replace HB := bst_ HB hb; clear hb hbox hg; have Bv := cells_11 B0.out; have Bw := frozen_11 B0.out) | ((with_reducible refine gate_callee (f := 62) rfl ?_); refine gom_ (some 7) Try.func62 (bound_of.calls k B7 B8 B9 Ba Bb Bc Bd Be Bf Bg _ _ B1 _ _ (Kd.C_below Bk.out HB.out) Bl.out A2.out) ?_; rintro e w14 ⟨rfl, hb⟩; refine ⟨_, rfl, ?_⟩; replace B0 := bkb_ B0 hb; replace HB := bst_ HB hb; (try clear hb)) | ((with_reducible refine gate_dst (N := 3) rfl ?_); refine bxe_ 3 68 #[.int .i64 0, .int .i64 0, .int .i64 0, .int .i64 0, .int .i64 0, .int .i64 0, .int .i64 0, .int .i64 0, .int .i64 0, .int .i64 0, .slice none 0 0] ?_; intro Bj hg w15 hbox hb; have B3 := am_ (hbox); have Bq := gwk_ HB hg; have Bh := Bq; replace HB := bst_ HB hb; have B4 := nbk_ B0 hg; have Bm := nbs_ B4; replace B0 := bkb_ B0 hb; clear hb hbox hg) | ((with_reducible refine gate_store (t := 68) (p := 3) rfl ?_); refine row_store_event (t := 68) (p := 3) (v := ?vo_w16) ?hgd ?ho ?hn Bj #[.int .i64 B7, .int .i64 B8, .int .i64 B9, .int .i64 Ba, .int .i64 Bb, .int .i64 Bc, .int .i64 Bd, .int .i64 Be, .int .i64 Bf, .int .i64 Bg, .slice B5 B1.length B6] ?hx ?hy 68 #[.int .i64 0, .int .i64 0, .int .i64 0, .int .i64 0, .int .i64 0, .int .i64 0, .int .i64 0, .int .i64 0, .int .i64 0, .int .i64 0, .slice none 0 0] ?hg ?hi ?hold ?h1 ?_; (case hgd => rfl); (case ho => rfl); (case hn => rfl); (case hx => rfl); (case hy => rfl); (case hg => exact (by (with_reducible repeat (first | apply kn_ | apply kd_ | apply ka_)); exact B3.out)); (case hi => kernel_rfl); (case hold => rfl); (case h1 => (first | kernel_rfl | simp [Value.oneCell'])); intro w16 hw; have Br : Aside0 (w16.heap[B2]? = some (.cells #[.int .i64 B7, .int .i64 B8, .int .i64 B9, .int .i64 Ba, .int .i64 Bb, .int .i64 Bc, .int .i64 Bd, .int .i64 Be, .int .i64 Bf, .int .i64 Bg, .slice B5 B1.length B6] 24 (0, 0))) := ⟨(by rw [hw]; exact (by (with_reducible repeat (first | apply kn_ | apply kd_ | apply ka_)); refine blk_farc ?_ B4.out; (with_reducible repeat (first | apply kn_ | apply kd_ | apply ka_)); exact B0.out))⟩; have Bs : Aside0 (w16.heap[Bj]? = some (.cells #[.int .i64 B7, .int .i64 B8, .int .i64 B9, .int .i64 Ba, .int .i64 Bb, .int .i64 Bc, .int .i64 Bd, .int .i64 Be, .int .i64 Bf, .int .i64 Bg, .slice B5 B1.length B6] 68 (0, 0))) := ⟨(by rw [hw]; exact (by (with_reducible repeat (first | apply kn_ | apply kd_ | apply ka_)); refine setRow_heap _ _ #[.int .i64 0, .int .i64 0, .int .i64 0, .int .i64 0, .int .i64 0, .int .i64 0, .int .i64 0, .int .i64 0, .int .i64 0, .int .i64 0, .slice none 0 0] _ 68 (0, 0) ?_; (with_reducible repeat (first | apply kn_ | apply kd_ | apply ka_)); exact B3.out))⟩; have Bt : Aside0 (Below w.heap.size w w16) := ⟨(by rw [hw]; exact (by repeat (first | (with_reducible first | exact HB.out | refine below_setc ?_ Bh.out | apply below_alloc | apply pw_below_drewN | apply below_drew1 | refine bs_ ?_ Bi.out | refine bs_ ?_ Bh.out) | exact HB.out)))⟩; clear hw; clear B0; clear B3; clear HB; have B0 := Br; have B3 := Bs; have HB := Bt; clear Br Bs Bt))
  go_ret
  exact ⟨by first | rfl | (simp [*] <;> rfl), by repeat (first | (with_reducible first | exact HB.out | apply ba_ | apply bn_ | apply bd_ | refine bs_ ?_ Bi.out | refine bs_ ?_ Bh.out) | exact HB.out)⟩
end Go.Proofs.Ythdoghhmooodjaa.Gn
namespace Go.Proofs.Ythdoghhmooodjaa.Gn
open Go.RowKit Go.Proofs.YthdoghhmooodjaaW.PrintWords Go.Proofs.YthdoghhmooodjaaW.PrintLast Go.Proofs.YthdoghhmooodjaaW.PrintMore
attribute [local go_sem] max2_int min2_int max_two min_two max_three min_three max_four min_four   -- for this text's walks alone
set_option linter.unusedVariables false
set_option linter.unusedSimpArgs false
def premise_All.f (k : Nat) (B4 B5 B6 B7 B8 B9 Ba Bb Bc Bd : Int) (B0 B1 : List Int) (B2 : List ByteArray) (B3 : List (S44)) : Option (Int) := (script_Right.f k B4 B5 B6 B7 B8 B9 Ba Bb Bc Bd B0 B1 B2 B3).bind fun Be => (if Be = 0 then ((premise_run_last.f k B4 B5 B6 B7 B8 B9 Ba Bb Bc Bd B0 B1 B2 B3).bind fun Bf => ((bound_All.f k B4 B5 B6 B7 B8 B9 Ba Bb Bc Bd B0).bind fun Bg => (some (wrap64 (Bf + Bg))))) else (some 0))
theorem premise_All.mono : ∀ a0 a1 a2 a3 a4 a5 a6 a7 a8 a9 B0 B1 B2 B3 k, LeO (premise_All.f k a0 a1 a2 a3 a4 a5 a6 a7 a8 a9 B0 B1 B2 B3) (premise_All.f (k + 1) a0 a1 a2 a3 a4 a5 a6 a7 a8 a9 B0 B1 B2 B3) := by
 intro a0 a1 a2 a3 a4 a5 a6 a7 a8 a9 B0 B1 B2 B3 k
 unfold premise_All.f
 repeat' first
   | (with_reducible exact bound_All.mono _ _ _ _ _ _ _ _ _ _ _ _)
   | (with_reducible exact premise_run_last.mono _ _ _ _ _ _ _ _ _ _ _ _ _ _ _)
   | (with_reducible exact script_Right.mono _ _ _ _ _ _ _ _ _ _ _ _ _ _ _)
   | (with_reducible exact LeO.refl _)
   | (with_reducible exact LeO.none _)
   | (with_reducible refine LeO.ite ?_ ?_)
   | (with_reducible refine LeO.bind ?_ (fun _ => ?_))
   | exact bound_All.mono _ _ _ _ _ _ _ _ _ _ _ _
   | exact premise_run_last.mono _ _ _ _ _ _ _ _ _ _ _ _ _ _ _
   | exact script_Right.mono _ _ _ _ _ _ _ _ _ _ _ _ _ _ _
   | exact LeO.none _
   | refine LeO.ite ?_ ?_
   | refine LeO.bind ?_ (fun _ => ?_)
def premise_All.T3 : Bool × List (List Nat × List Nat) := (true, [([], []), ([0], [0]), ([1], [1]), ([], []), ([3], [3]), ([4, 2], [4]), ([2, 5], [2, 5]), ([6, 5, 0, 1, 2, 3, 4, 5, 6], [6])])
def premise_All.B3 : List Nat := [0, 1, 3, 0, 8, 31, 63, 127]
theorem premise_All.tab3 : rtab .any (opsOf Try.f34 3) = premise_All.T3 := by kernel_rfl
theorem premise_All.bits3 : waitsOk premise_All.T3.2 premise_All.B3 = true := by kernel_rfl
set_option maxHeartbeats 8000000 in
set_option maxRecDepth 100000 in
theorem premise_All.calls (k : Nat) (B6 B7 B8 B9 Ba Bb Bc Bd Be Bf : Int) (Bi : Option Addr) (Bj : Nat) (B2 : List Int) (Bk : Option Addr) (Bl : Nat) (B3 : List Int) (Bm : Option Addr) (Bn : Nat) (B4 : List ByteArray) (Bo : Option Addr) (Bp : Nat) (B5 : List (S44)) (r : Int) (w : World) (Bw : Kd.C (Kd.int .i64) w Bi B2.length B2) (Bx : B2.length ≤ Bj) (By : Kd.C (Kd.int .i64) w Bk B3.length B3) (Bz : B3.length ≤ Bl) (D0 : Kd.C Kd.string w Bm B4.length B4) (D1 : B4.length ≤ Bn) (D2 : Kd.C k44 w Bo B5.length B5) (D3 : B5.length ≤ Bp) (h : premise_All.f k B6 B7 B8 B9 Ba Bb Bc Bd Be Bf B2 B3 B4 B5 = some r) :
  Calls Try.prog 34 #[.agg #[.int .i64 B6, .int .i64 B7, .int .i64 B8, .int .i64 B9, .int .i64 Ba, .int .i64 Bb, .int .i64 Bc, .int .i64 Bd, .int .i64 Be, .int .i64 Bf, .slice Bi B2.length Bj, .slice Bk B3.length Bl, .slice Bm B4.length Bn, .slice Bo B5.length Bp]] w fun e w' => e = .returned (.int .i64 r) ∧ Below w.heap.size w w' := by
 have Dg := Try.underlying64
 have Dh := Try.underlying24
 have Bg := am_ Bw
 have Bh := am_ Bx
 clear Bw Bx
 have Bq := am_ By
 have Br := am_ Bz
 clear By Bz
 have Bs := am_ D0
 have Bt := am_ D1
 clear D0 D1
 have Bu := am_ D2
 have Bv := am_ D3
 clear D2 D3
 have HB := am_ (Below.refl w.heap.size w)
 have H := h
 unfold premise_All.f at H
 clear h
 obtain ⟨D4, A2, H⟩ := bes_ H
 try dsimp only at H
 by_cases c3 : D4 = 0
 ·rw [if_pos c3] at H
  have D7 : (D4 == 0) = true := beq_iff_eq.mpr c3
  have D8 : (D4 != 0) = false := bne_eq_false_iff_eq.mpr c3
  clear c3
  obtain ⟨D9, A4, H⟩ := bes_ H
  try dsimp only at H
  replace H := Option.bind_eq_some_iff.mp H
  obtain ⟨Da, Df, H⟩ := H
  replace H : (some (wrap64 (D9 + Da))) = some r := H
  have A5 := am_ Df
  clear Df
  obtain rfl := Option.some.inj H
  go_enter Try.func34, Try.ntmps34
  try go_wp2_with (first | ((with_reducible refine gate_load (t := 28) (x := .tmp 1) rfl ?_); refine lrg_ 28 (.tmp 1) B1 28 (by exact B0.out) Try.underlying28 ?_) | ((with_reducible refine gate_dst (N := 1) rfl ?_); refine bxe_ 1 28 #[.int .i64 B6, .int .i64 B7, .int .i64 B8, .int .i64 B9, .int .i64 Ba, .int .i64 Bb, .int .i64 Bc, .int .i64 Bd, .int .i64 Be, .int .i64 Bf, .slice Bi B2.length Bj, .slice Bk B3.length Bl, .slice Bm B4.length Bn, .slice Bo B5.length Bp] ?_; intro B1 hg w6 hbox hb; have B0 := am_ (hbox); have D5 := gwk_ HB hg; have D6 := D5; replace HB := bst_ HB hb; clear hb hbox hg; have Db := cells_14 B0.out; have Dc := frozen_14 B0.out) | ((with_reducible refine gate_callee (f := 12) rfl ?_); refine gom_ (some 4) Try.func12 (script_Right.calls k B6 B7 B8 B9 Ba Bb Bc Bd Be Bf _ _ B2 _ _ B3 _ _ B4 _ _ B5 _ _ (Kd.C_below Bg.out HB.out) Bh.out (Kd.C_below Bq.out HB.out) Br.out (Kd.C_below Bs.out HB.out) Bt.out (Kd.C_below Bu.out HB.out) Bv.out A2.out) ?_; rintro e w8 ⟨rfl, hb⟩; refine ⟨_, rfl, ?_⟩; replace B0 := bkb_ B0 hb; replace HB := bst_ HB hb; (try clear hb)))
  replace B0 := am_ (blk_drew B0.out)
  replace HB := am_ (below_drew1 HB.out)
  refine start_ (n := 8) (S := fun w' => ce_ w' B1 0 (.int .i64 B6) ∧ ce_ w' B1 1 (.int .i64 B7) ∧ ce_ w' B1 2 (.int .i64 B8) ∧ ce_ w' B1 3 (.int .i64 B9) ∧ ce_ w' B1 4 (.int .i64 Ba) ∧ ce_ w' B1 5 (.int .i64 Bb) ∧ ce_ w' B1 6 (.int .i64 Bc) ∧ ce_ w' B1 7 (.int .i64 Bd) ∧ ce_ w' B1 8 (.int .i64 Be) ∧ ce_ w' B1 9 (.int .i64 Bf) ∧ ce_ w' B1 10 (.slice Bi B2.length Bj) ∧ ce_ w' B1 11 (.slice Bk B3.length Bl) ∧ ce_ w' B1 12 (.slice Bm B4.length Bn) ∧ ce_ w' B1 13 (.slice Bo B5.length Bp)) (ds := []) #[false, false, false, false, false, false, false, false] (by kernel_rfl) rfl rfl ⟨(blk_cell B0.out 0).trans rfl, (blk_cell B0.out 1).trans rfl, (blk_cell B0.out 2).trans rfl, (blk_cell B0.out 3).trans rfl, (blk_cell B0.out 4).trans rfl, (blk_cell B0.out 5).trans rfl, (blk_cell B0.out 6).trans rfl, (blk_cell B0.out 7).trans rfl, (blk_cell B0.out 8).trans rfl, (blk_cell B0.out 9).trans rfl, (blk_cell B0.out 10).trans rfl, (blk_cell B0.out 11).trans rfl, (blk_cell B0.out 12).trans rfl, (blk_cell B0.out 13).trans rfl⟩ (fun hHeld => ?_); refine with_tabW premise_All.tab3 premise_All.bits3 (fun HT_ HW_ => ?_)
  generalize w8.drew = w9 at B0 HB hHeld ⊢
  refine pur_ 3 (some 9) rfl rfl (any_of HT_.out (by kernel_rfl)) ?_
  refine tak_ 0 (some 6) rfl rfl (take_ofW HT_.out HW_.out (by kernel_rfl)) hHeld ?_ (by rintro w' ⟨s0, s1, s2, s3, s4, s5, s6, s7, s8, s9, s10, s11, s12, s13⟩; (first | (refine load_cells_14 (ty := 28) (x := .tmp 1) (g := B1) ?hlo_ ?hx_ Try.underlying28 ?hd_ ?hi_ s0 s1 s2 s3 s4 s5 s6 s7 s8 s9 s10 s11 s12 s13; (case hlo_ => rfl); (case hx_ => rfl); (case hd_ => rfl); (case hi_ => kernel_rfl)) | (go_simp; with_reducible rfl)))
  refine pur_ 1 (some 7) rfl rfl (any_of HT_.out (by kernel_rfl)) ?_
  refine tak_ 4 (some 10) rfl rfl (take_ofW HT_.out HW_.out (by kernel_rfl)) hHeld ?_ (by rintro w' ⟨s0, s1, s2, s3, s4, s5, s6, s7, s8, s9, s10, s11, s12, s13⟩; (first | (refine load_cells_14 (ty := 28) (x := .tmp 1) (g := B1) ?hlo_ ?hx_ Try.underlying28 ?hd_ ?hi_ s0 s1 s2 s3 s4 s5 s6 s7 s8 s9 s10 s11 s12 s13; (case hlo_ => rfl); (case hx_ => rfl); (case hd_ => rfl); (case hi_ => kernel_rfl)) | (go_simp; with_reducible rfl)))
  refine oon_ 2 (some 8) rfl rfl (one_of HT_.out (by kernel_rfl)) (fun K hK => ?_)
  refine gos_ Try.func57 (premise_run_last.calls k B6 B7 B8 B9 Ba Bb Bc Bd Be Bf _ _ B2 _ _ B3 _ _ B4 _ _ B5 _ _ (Kd.C_below Bg.out HB.out) Bh.out (Kd.C_below Bq.out HB.out) Br.out (Kd.C_below Bs.out HB.out) Bt.out (Kd.C_below Bu.out HB.out) Bv.out A4.out) ?_
  rintro e w10 ⟨rfl, hb⟩
  refine ⟨_, rfl, ?_⟩
  replace B0 := bkb_ B0 hb
  replace HB := bst_ HB hb
  (try clear hb)
  (try clear hb2)
  (try clear hk)
  (try clear hi)
  refine hK.out _ _ (cells_14 B0.out) (fun hHeld => ?_)
  clear hK K
  refine nor_ 8 ?_
  refine oon_ 5 (some 11) rfl rfl (one_of HT_.out (by kernel_rfl)) (fun K hK => ?_)
  refine gos_ Try.func60 (bound_All.calls k B6 B7 B8 B9 Ba Bb Bc Bd Be Bf _ _ B2 _ _ (Kd.C_below Bg.out HB.out) Bh.out A5.out) ?_
  rintro e w11 ⟨rfl, hb⟩
  refine ⟨_, rfl, ?_⟩
  replace B0 := bkb_ B0 hb
  replace HB := bst_ HB hb
  (try clear hb)
  (try clear hb2)
  (try clear hk)
  (try clear hi)
  refine hK.out _ _ (cells_14 B0.out) (fun hHeld => ?_)
  clear hK K
  refine nor_ 11 ?_
  refine pur_ 6 (some 12) rfl rfl (any_of HT_.out (by kernel_rfl)) ?_
  refine pur_ 7 (some 2) rfl rfl (any_of HT_.out (by kernel_rfl)) ?_
  refine done_ (done_of HT_.out (by kernel_rfl)) ?_
  try go_wp2
  go_ret
  exact ⟨by first | rfl | (simp [*] <;> rfl), by repeat (first | (with_reducible first | exact HB.out | apply ba_ | apply bn_ | apply bd_ | refine bs_ ?_ D6.out) | exact HB.out)⟩
 ·rw [if_neg c3] at H
  have D7 : (D4 == 0) = false := beq_eq_false_iff_ne.mpr c3
  have D8 : (D4 != 0) = true := bne_iff_ne.mpr c3
  obtain rfl := Option.some.inj H
  go_enter Try.func34, Try.ntmps34
  go_wp2_with (first | ((with_reducible refine gate_load (t := 28) (x := .tmp 1) rfl ?_); refine lrg_ 28 (.tmp 1) B1 28 (by exact B0.out) Try.underlying28 ?_) | ((with_reducible refine gate_dst (N := 1) rfl ?_); refine bxe_ 1 28 #[.int .i64 B6, .int .i64 B7, .int .i64 B8, .int .i64 B9, .int .i64 Ba, .int .i64 Bb, .int .i64 Bc, .int .i64 Bd, .int .i64 Be, .int .i64 Bf, .slice Bi B2.length Bj, .slice Bk B3.length Bl, .slice Bm B4.length Bn, .slice Bo B5.length Bp] ?_; intro B1 hg w12 hbox hb; have B0 := am_ (hbox); have D5 := gwk_ HB hg; have D6 := D5; replace HB := bst_ HB hb; clear hb hbox hg; have Dd := cells_14 B0.out; have De := frozen_14 B0.out) | ((with_reducible refine gate_callee (f := 12) rfl ?_); refine gom_ (some 4) Try.func12 (script_Right.calls k B6 B7 B8 B9 Ba Bb Bc Bd Be Bf _ _ B2 _ _ B3 _ _ B4 _ _ B5 _ _ (Kd.C_below Bg.out HB.out) Bh.out (Kd.C_below Bq.out HB.out) Br.out (Kd.C_below Bs.out HB.out) Bt.out (Kd.C_below Bu.out HB.out) Bv.out A2.out) ?_; rintro e w14 ⟨rfl, hb⟩; refine ⟨_, rfl, ?_⟩; replace B0 := bkb_ B0 hb; replace HB := bst_ HB hb; (try clear hb)))
  go_ret
  exact ⟨by first | rfl | (simp [*] <;> rfl), by repeat (first | (with_reducible first | exact HB.out | apply ba_ | apply bn_ | apply bd_ | refine bs_ ?_ D6.out) | exact HB.out)⟩
end Go.Proofs.Ythdoghhmooodjaa.Gn
