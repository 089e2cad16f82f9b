import Derived.Test.YthdoghhmooodjaaZPremiseAfterGn0
import Derived.Test.YthdoghhmooodjaaZPremiseAfterGn1
import Derived.Test.YthdoghhmooodjaaZPremiseAfterGn16
import Derived.Test.YthdoghhmooodjaaZPremiseAfterGn44
import Derived.Test.YthdoghhmooodjaaZPremiseAfterGn46
namespace Go.Proofs.Ythdoghhmooodjaa.Gn
open Go.RowKit Go.Proofs.YthdoghhmooodjaaW.PrintWords Go.Proofs.YthdoghhmooodjaaW.PrintLast Go.Proofs.YthdoghhmooodjaaW.PrintMore
attribute [local go_sem] max2_int min2_int max_two min_two max_three min_three max_four min_four   -- for this text's walks alone
set_option linter.unusedVariables false
set_option linter.unusedSimpArgs false
def premise_Settled.f (k : Nat) (B4 B5 B6 B7 B8 B9 Ba Bb Bc Bd : Int) (B0 B1 : List Int) (B2 : List ByteArray) (B3 : List (S44)) : Option (Int) := (script_Right.f k B4 B5 B6 B7 B8 B9 Ba Bb Bc Bd B0 B1 B2 B3).bind fun Be => (if Be = 0 then ((premise_run_last.f k B4 B5 B6 B7 B8 B9 Ba Bb Bc Bd B0 B1 B2 B3).bind fun Bf => ((bound_Settle.f k B4 B5 B6 B7 B8 B9 Ba Bb Bc Bd B0).bind fun Bg => (some (wrap64 (Bf + Bg))))) else (some 0))
theorem premise_Settled.mono : ∀ a0 a1 a2 a3 a4 a5 a6 a7 a8 a9 B0 B1 B2 B3 k, LeO (premise_Settled.f k a0 a1 a2 a3 a4 a5 a6 a7 a8 a9 B0 B1 B2 B3) (premise_Settled.f (k + 1) a0 a1 a2 a3 a4 a5 a6 a7 a8 a9 B0 B1 B2 B3) := by
 intro a0 a1 a2 a3 a4 a5 a6 a7 a8 a9 B0 B1 B2 B3 k
 unfold premise_Settled.f
 repeat' first
   | (with_reducible exact bound_Settle.mono _ _ _ _ _ _ _ _ _ _ _ _)
   | (with_reducible exact premise_run_last.mono _ _ _ _ _ _ _ _ _ _ _ _ _ _ _)
   | (with_reducible exact script_Right.mono _ _ _ _ _ _ _ _ _ _ _ _ _ _ _)
   | (with_reducible exact LeO.refl _)
   | (with_reducible exact LeO.none _)
   | (with_reducible refine LeO.ite ?_ ?_)
   | (with_reducible refine LeO.bind ?_ (fun _ => ?_))
   | exact bound_Settle.mono _ _ _ _ _ _ _ _ _ _ _ _
   | exact premise_run_last.mono _ _ _ _ _ _ _ _ _ _ _ _ _ _ _
   | exact script_Right.mono _ _ _ _ _ _ _ _ _ _ _ _ _ _ _
   | exact LeO.none _
   | refine LeO.ite ?_ ?_
   | refine LeO.bind ?_ (fun _ => ?_)
def premise_Settled.T3 : Bool × List (List Nat × List Nat) := (true, [([], []), ([0], [0]), ([1], [1]), ([], []), ([3], [3]), ([4, 2], [4]), ([2, 5], [2, 5]), ([6, 5, 0, 1, 2, 3, 4, 5, 6], [6])])
def premise_Settled.B3 : List Nat := [0, 1, 3, 0, 8, 31, 63, 127]
theorem premise_Settled.tab3 : rtab .any (opsOf Try.f32 3) = premise_Settled.T3 := by kernel_rfl
theorem premise_Settled.bits3 : waitsOk premise_Settled.T3.2 premise_Settled.B3 = true := by kernel_rfl
set_option maxHeartbeats 8000000 in
set_option maxRecDepth 100000 in
theorem premise_Settled.calls (k : Nat) (B6 B7 B8 B9 Ba Bb Bc Bd Be Bf : Int) (Bi : Option Addr) (Bj : Nat) (B2 : List Int) (Bk : Option Addr) (Bl : Nat) (B3 : List Int) (Bm : Option Addr) (Bn : Nat) (B4 : List ByteArray) (Bo : Option Addr) (Bp : Nat) (B5 : List (S44)) (r : Int) (w : World) (Bw : Kd.C (Kd.int .i64) w Bi B2.length B2) (Bx : B2.length ≤ Bj) (By : Kd.C (Kd.int .i64) w Bk B3.length B3) (Bz : B3.length ≤ Bl) (D0 : Kd.C Kd.string w Bm B4.length B4) (D1 : B4.length ≤ Bn) (D2 : Kd.C k44 w Bo B5.length B5) (D3 : B5.length ≤ Bp) (h : premise_Settled.f k B6 B7 B8 B9 Ba Bb Bc Bd Be Bf B2 B3 B4 B5 = some r) :
  Calls Try.prog 32 #[.agg #[.int .i64 B6, .int .i64 B7, .int .i64 B8, .int .i64 B9, .int .i64 Ba, .int .i64 Bb, .int .i64 Bc, .int .i64 Bd, .int .i64 Be, .int .i64 Bf, .slice Bi B2.length Bj, .slice Bk B3.length Bl, .slice Bm B4.length Bn, .slice Bo B5.length Bp]] w fun e w' => e = .returned (.int .i64 r) ∧ Below w.heap.size w w' := by
 have Dg := Try.underlying64
 have Dh := Try.underlying24
 have Bg := am_ Bw
 have Bh := am_ Bx
 clear Bw Bx
 have Bq := am_ By
 have Br := am_ Bz
 clear By Bz
 have Bs := am_ D0
 have Bt := am_ D1
 clear D0 D1
 have Bu := am_ D2
 have Bv := am_ D3
 clear D2 D3
 have HB := am_ (Below.refl w.heap.size w)
 have H := h
 unfold premise_Settled.f at H
 clear h
 obtain ⟨D4, A2, H⟩ := bes_ H
 try dsimp only at H
 by_cases c3 : D4 = 0
 ·rw [if_pos c3] at H
  have D7 : (D4 == 0) = true := beq_iff_eq.mpr c3
  have D8 : (D4 != 0) = false := bne_eq_false_iff_eq.mpr c3
  clear c3
  obtain ⟨D9, A4, H⟩ := bes_ H
  try dsimp only at H
  replace H := Option.bind_eq_some_iff.mp H
  obtain ⟨Da, Df, H⟩ := H
  replace H : (some (wrap64 (D9 + Da))) = some r := H
  have A5 := am_ Df
  clear Df
  obtain rfl := Option.some.inj H
  go_enter Try.func32, Try.ntmps32
  try go_wp2_with (first | ((with_reducible refine gate_load (t := 28) (x := .tmp 1) rfl ?_); refine lrg_ 28 (.tmp 1) B1 28 (by exact B0.out) Try.underlying28 ?_) | ((with_reducible refine gate_dst (N := 1) rfl ?_); refine bxe_ 1 28 #[.int .i64 B6, .int .i64 B7, .int .i64 B8, .int .i64 B9, .int .i64 Ba, .int .i64 Bb, .int .i64 Bc, .int .i64 Bd, .int .i64 Be, .int .i64 Bf, .slice Bi B2.length Bj, .slice Bk B3.length Bl, .slice Bm B4.length Bn, .slice Bo B5.length Bp] ?_; intro B1 hg w6 hbox hb; have B0 := am_ (hbox); have D5 := gwk_ HB hg; have D6 := D5; replace HB := bst_ HB hb; clear hb hbox hg; have Db := cells_14 B0.out; have Dc := frozen_14 B0.out) | ((with_reducible refine gate_callee (f := 12) rfl ?_); refine gom_ (some 4) Try.func12 (script_Right.calls k B6 B7 B8 B9 Ba Bb Bc Bd Be Bf _ _ B2 _ _ B3 _ _ B4 _ _ B5 _ _ (Kd.C_below Bg.out HB.out) Bh.out (Kd.C_below Bq.out HB.out) Br.out (Kd.C_below Bs.out HB.out) Bt.out (Kd.C_below Bu.out HB.out) Bv.out A2.out) ?_; rintro e w8 ⟨rfl, hb⟩; refine ⟨_, rfl, ?_⟩; replace B0 := bkb_ B0 hb; replace HB := bst_ HB hb; (try clear hb)))
  replace B0 := am_ (blk_drew B0.out)
  replace HB := am_ (below_drew1 HB.out)
  refine start_ (n := 8) (S := fun w' => ce_ w' B1 0 (.int .i64 B6) ∧ ce_ w' B1 1 (.int .i64 B7) ∧ ce_ w' B1 2 (.int .i64 B8) ∧ ce_ w' B1 3 (.int .i64 B9) ∧ ce_ w' B1 4 (.int .i64 Ba) ∧ ce_ w' B1 5 (.int .i64 Bb) ∧ ce_ w' B1 6 (.int .i64 Bc) ∧ ce_ w' B1 7 (.int .i64 Bd) ∧ ce_ w' B1 8 (.int .i64 Be) ∧ ce_ w' B1 9 (.int .i64 Bf) ∧ ce_ w' B1 10 (.slice Bi B2.length Bj) ∧ ce_ w' B1 11 (.slice Bk B3.length Bl) ∧ ce_ w' B1 12 (.slice Bm B4.length Bn) ∧ ce_ w' B1 13 (.slice Bo B5.length Bp)) (ds := []) #[false, false, false, false, false, false, false, false] (by kernel_rfl) rfl rfl ⟨(blk_cell B0.out 0).trans rfl, (blk_cell B0.out 1).trans rfl, (blk_cell B0.out 2).trans rfl, (blk_cell B0.out 3).trans rfl, (blk_cell B0.out 4).trans rfl, (blk_cell B0.out 5).trans rfl, (blk_cell B0.out 6).trans rfl, (blk_cell B0.out 7).trans rfl, (blk_cell B0.out 8).trans rfl, (blk_cell B0.out 9).trans rfl, (blk_cell B0.out 10).trans rfl, (blk_cell B0.out 11).trans rfl, (blk_cell B0.out 12).trans rfl, (blk_cell B0.out 13).trans rfl⟩ (fun hHeld => ?_); refine with_tabW premise_Settled.tab3 premise_Settled.bits3 (fun HT_ HW_ => ?_)
  generalize w8.drew = w9 at B0 HB hHeld ⊢
  refine pur_ 3 (some 9) rfl rfl (any_of HT_.out (by kernel_rfl)) ?_
  refine tak_ 0 (some 6) rfl rfl (take_ofW HT_.out HW_.out (by kernel_rfl)) hHeld ?_ (by rintro w' ⟨s0, s1, s2, s3, s4, s5, s6, s7, s8, s9, s10, s11, s12, s13⟩; (first | (refine load_cells_14 (ty := 28) (x := .tmp 1) (g := B1) ?hlo_ ?hx_ Try.underlying28 ?hd_ ?hi_ s0 s1 s2 s3 s4 s5 s6 s7 s8 s9 s10 s11 s12 s13; (case hlo_ => rfl); (case hx_ => rfl); (case hd_ => rfl); (case hi_ => kernel_rfl)) | (go_simp; with_reducible rfl)))
  refine pur_ 1 (some 7) rfl rfl (any_of HT_.out (by kernel_rfl)) ?_
  refine tak_ 4 (some 10) rfl rfl (take_ofW HT_.out HW_.out (by kernel_rfl)) hHeld ?_ (by rintro w' ⟨s0, s1, s2, s3, s4, s5, s6, s7, s8, s9, s10, s11, s12, s13⟩; (first | (refine load_cells_14 (ty := 28) (x := .tmp 1) (g := B1) ?hlo_ ?hx_ Try.underlying28 ?hd_ ?hi_ s0 s1 s2 s3 s4 s5 s6 s7 s8 s9 s10 s11 s12 s13; (case hlo_ => rfl); (case hx_ => rfl); (case hd_ => rfl); (case hi_ => kernel_rfl)) | (go_simp; with_reducible rfl)))
  refine oon_ 2 (some 8) rfl rfl (one_of HT_.out (by kernel_rfl)) (fun K hK => ?_)
  refine gos_ Try.func57 (premise_run_last.calls k B6 B7 B8 B9 Ba Bb Bc Bd Be Bf _ _ B2 _ _ B3 _ _ B4 _ _ B5 _ _ (Kd.C_below Bg.out HB.out) Bh.out (Kd.C_below Bq.out HB.out) Br.out (Kd.C_below Bs.out HB.out) Bt.out (Kd.C_below Bu.out HB.out) Bv.out A4.out) ?_
  rintro e w10 ⟨rfl, hb⟩
  refine ⟨_, rfl, ?_⟩
  replace B0 := bkb_ B0 hb
  replace HB := bst_ HB hb
  (try clear hb)
  (try clear hb2)
  (try clear hk)
  (try clear hi)
  refine hK.out _ _ (cells_14 B0.out) (fun hHeld => ?_)
  clear hK K
  refine nor_ 8 ?_
  refine oon_ 5 (some 11) rfl rfl (one_of HT_.out (by kernel_rfl)) (fun K hK => ?_)
  refine gos_ Try.func58 (bound_Settle.calls k B6 B7 B8 B9 Ba Bb Bc Bd Be Bf _ _ B2 _ _ (Kd.C_below Bg.out HB.out) Bh.out A5.out) ?_
  rintro e w11 ⟨rfl, hb⟩
  refine ⟨_, rfl, ?_⟩
  replace B0 := bkb_ B0 hb
  replace HB := bst_ HB hb
  (try clear hb)
  (try clear hb2)
  (try clear hk)
  (try clear hi)
  refine hK.out _ _ (cells_14 B0.out) (fun hHeld => ?_)
  clear hK K
  refine nor_ 11 ?_
  refine pur_ 6 (some 12) rfl rfl (any_of HT_.out (by kernel_rfl)) ?_
  refine pur_ 7 (some 2) rfl rfl (any_of HT_.out (by kernel_rfl)) ?_
  refine done_ (done_of HT_.out (by kernel_rfl)) ?_
  try go_wp2
  go_ret
  exact ⟨by first | rfl | (simp [*] <;> rfl), by repeat (first | (with_reducible first | exact HB.out | apply ba_ | apply bn_ | apply bd_ | refine bs_ ?_ D6.out) | exact HB.out)⟩
 ·rw [if_neg c3] at H
  have D7 : (D4 == 0) = false := beq_eq_false_iff_ne.mpr c3
  have D8 : (D4 != 0) = true := bne_iff_ne.mpr c3
  obtain rfl := Option.some.inj H
  go_enter Try.func32, Try.ntmps32
  go_wp2_with (first | ((with_reducible refine gate_load (t := 28) (x := .tmp 1) rfl ?_); refine lrg_ 28 (.tmp 1) B1 28 (by exact B0.out) Try.underlying28 ?_) | ((with_reducible refine gate_dst (N := 1) rfl ?_); refine bxe_ 1 28 #[.int .i64 B6, .int .i64 B7, .int .i64 B8, .int .i64 B9, .int .i64 Ba, .int .i64 Bb, .int .i64 Bc, .int .i64 Bd, .int .i64 Be, .int .i64 Bf, .slice Bi B2.length Bj, .slice Bk B3.length Bl, .slice Bm B4.length Bn, .slice Bo B5.length Bp] ?_; intro B1 hg w12 hbox hb; have B0 := am_ (hbox); have D5 := gwk_ HB hg; have D6 := D5; replace HB := bst_ HB hb; clear hb hbox hg; have Dd := cells_14 B0.out; have De := frozen_14 B0.out) | ((with_reducible refine gate_callee (f := 12) rfl ?_); refine gom_ (some 4) Try.func12 (script_Right.calls k B6 B7 B8 B9 Ba Bb Bc Bd Be Bf _ _ B2 _ _ B3 _ _ B4 _ _ B5 _ _ (Kd.C_below Bg.out HB.out) Bh.out (Kd.C_below Bq.out HB.out) Br.out (Kd.C_below Bs.out HB.out) Bt.out (Kd.C_below Bu.out HB.out) Bv.out A2.out) ?_; rintro e w14 ⟨rfl, hb⟩; refine ⟨_, rfl, ?_⟩; replace B0 := bkb_ B0 hb; replace HB := bst_ HB hb; (try clear hb)))
  go_ret
  exact ⟨by first | rfl | (simp [*] <;> rfl), by repeat (first | (with_reducible first | exact HB.out | apply ba_ | apply bn_ | apply bd_ | refine bs_ ?_ D6.out) | exact HB.out)⟩
end Go.Proofs.Ythdoghhmooodjaa.Gn
