import Derived.Test.YthdoghhmooodjaaZPremiseLastGn0
import Derived.Test.YthdoghhmooodjaaZPremiseLastGn1
import Derived.Test.YthdoghhmooodjaaZPremiseLastGn23
import Derived.Test.YthdoghhmooodjaaZPremiseLastGn55
import Derived.Test.YthdoghhmooodjaaZPremiseLastGn35
import Derived.Test.YthdoghhmooodjaaZPremiseLastGn2
import Derived.Test.YthdoghhmooodjaaZPremiseLastGn44
import Derived.Test.YthdoghhmooodjaaZPremiseLastGn46
import Derived.Test.YthdoghhmooodjaaZPremiseLastGn49
import Derived.Test.YthdoghhmooodjaaZPremiseLastGn51
namespace Go.Proofs.Ythdoghhmooodjaa.Gn
open Go.RowKit Go.Proofs.YthdoghhmooodjaaW.PrintWords Go.Proofs.YthdoghhmooodjaaW.PrintLast Go.Proofs.YthdoghhmooodjaaW.PrintMore
attribute [local go_sem] max2_int min2_int max_two min_two max_three min_three max_four min_four   -- for this text's walks alone
set_option linter.unusedVariables false
set_option linter.unusedSimpArgs false
def r04_All.f (k : Nat) (B2 B3 B4 B1 B5 B6 B7 B8 B9 Ba : Int) (B0 : List Int) : Option (Int) := (r03_Plain.f k B2 B3 B4 B1 B5 B6 B7 B8 B9 Ba B0).bind fun Bb => (if Bb = 0 then ((r04_Settle.f k B2 B3 B4 B1 B5 B6 B7 B8 B9 Ba B0).bind fun Bc => (some (wrap64 (Bc + (wrap64 (4 * B1)))))) else (some 0))
set_option maxHeartbeats 8000000 in
set_option maxRecDepth 100000 in
theorem r04_All.calls (k : Nat) (B3 B4 B5 B6 B7 B8 B9 Ba Bb Bc : Int) (Bd : Option Addr) (Be : Nat) (B2 : List Int) (r : Int) (w : World) (Bh : Kd.C (Kd.int .i64) w Bd B2.length B2) (Bi : B2.length ≤ Be) (h : r04_All.f k B3 B4 B5 B6 B7 B8 B9 Ba Bb Bc B2 = some r) :
  Calls Try.prog 61 #[.agg #[.int .i64 B3, .int .i64 B4, .int .i64 B5, .int .i64 B6, .int .i64 B7, .int .i64 B8, .int .i64 B9, .int .i64 Ba, .int .i64 Bb, .int .i64 Bc, .slice Bd B2.length Be]] w fun e w' => e = .returned (.int .i64 r) ∧ Below w.heap.size w w' := by
 have Bq := Try.underlying24
 have Bf := am_ Bh
 have Bg := am_ Bi
 clear Bh Bi
 have HB := am_ (Below.refl w.heap.size w)
 have H := h
 unfold r04_All.f at H
 clear h
 obtain ⟨Bj, A2, H⟩ := bes_ H
 try dsimp only at H
 by_cases c3 : Bj = 0
 ·rw [if_pos c3] at H
  have Bm : (Bj == 0) = true := beq_iff_eq.mpr c3
  have Bn : (Bj != 0) = false := bne_eq_false_iff_eq.mpr c3
  clear c3
  obtain ⟨Br, A4, H⟩ := bes_ H
  try dsimp only at H
  obtain rfl := Option.some.inj H
  go_enter Try.func61, Try.ntmps61
  try go_wp2_with (first | ((with_reducible refine gate_dst (N := 1) rfl ?_); refine bxe_ 1 24 #[.int .i64 B3, .int .i64 B4, .int .i64 B5, .int .i64 B6, .int .i64 B7, .int .i64 B8, .int .i64 B9, .int .i64 Ba, .int .i64 Bb, .int .i64 Bc, .slice Bd B2.length Be] ?_; intro B1 hg w5 hbox hb; have B0 := am_ (hbox); have Bk := gwk_ HB hg; have Bl := Bk; replace HB := bst_ HB hb; clear hb hbox hg; have Bs := cells_11 B0.out; have Bt := frozen_11 B0.out) | ((with_reducible refine gate_callee (f := 56) rfl ?_); refine gom_ (some 4) Try.func56 (r03_Plain.calls k B3 B4 B5 B6 B7 B8 B9 Ba Bb Bc _ _ B2 _ _ (Kd.C_below Bf.out HB.out) Bg.out A2.out) ?_; rintro e w7 ⟨rfl, hb⟩; refine ⟨_, rfl, ?_⟩; replace B0 := bkb_ B0 hb; replace HB := bst_ HB hb; (try clear hb)))
  replace B0 := am_ (blk_drew B0.out)
  replace HB := am_ (below_drew1 HB.out)
  refine start_ (n := 7) (S := fun w' => ce_ w' B1 0 (.int .i64 B3) ∧ ce_ w' B1 1 (.int .i64 B4) ∧ ce_ w' B1 2 (.int .i64 B5) ∧ ce_ w' B1 3 (.int .i64 B6) ∧ ce_ w' B1 4 (.int .i64 B7) ∧ ce_ w' B1 5 (.int .i64 B8) ∧ ce_ w' B1 6 (.int .i64 B9) ∧ ce_ w' B1 7 (.int .i64 Ba) ∧ ce_ w' B1 8 (.int .i64 Bb) ∧ ce_ w' B1 9 (.int .i64 Bc) ∧ ce_ w' B1 10 (.slice Bd B2.length Be)) (ds := []) #[false, false, false, false, false, false, false] (by kernel_rfl) rfl rfl ⟨(blk_cell B0.out 0).trans rfl, (blk_cell B0.out 1).trans rfl, (blk_cell B0.out 2).trans rfl, (blk_cell B0.out 3).trans rfl, (blk_cell B0.out 4).trans rfl, (blk_cell B0.out 5).trans rfl, (blk_cell B0.out 6).trans rfl, (blk_cell B0.out 7).trans rfl, (blk_cell B0.out 8).trans rfl, (blk_cell B0.out 9).trans rfl, (blk_cell B0.out 10).trans rfl⟩ (fun hHeld => ?_)
  generalize w7.drew = w8 at B0 HB hHeld ⊢
  refine pur_ 2 (some 8) rfl rfl (by kernel_rfl) ?_
  refine tak_ 0 (some 6) rfl rfl (by kernel_rfl) hHeld ?_ (by rintro w' ⟨s0, s1, s2, s3, s4, s5, s6, s7, s8, s9, s10⟩; go_simp; with_reducible rfl)
  refine tak_ 3 (some 9) rfl rfl (by kernel_rfl) hHeld ?_ (by rintro w' ⟨s0, s1, s2, s3, s4, s5, s6, s7, s8, s9, s10⟩; go_simp; with_reducible rfl)
  refine pur_ 4 (some 10) rfl rfl (by kernel_rfl) ?_
  refine oon_ 1 (some 7) rfl rfl (by kernel_rfl) (fun K hK => ?_)
  refine gos_ Try.func59 (r04_Settle.calls k B3 B4 B5 B6 B7 B8 B9 Ba Bb Bc _ _ B2 _ _ (Kd.C_below Bf.out HB.out) Bg.out A4.out) ?_
  rintro e w9 ⟨rfl, hb⟩
  refine ⟨_, rfl, ?_⟩
  replace B0 := bkb_ B0 hb
  replace HB := bst_ HB hb
  (try clear hb)
  (try clear hb2)
  (try clear hk)
  (try clear hi)
  refine hK.out _ _ (cells_11 B0.out) (fun hHeld => ?_)
  clear hK K
  refine nor_ 7 ?_
  refine pur_ 5 (some 11) rfl rfl (by kernel_rfl) ?_
  refine pur_ 6 (some 2) rfl rfl (by kernel_rfl) ?_
  refine done_ (by kernel_rfl) ?_
  try go_wp2
  go_ret
  exact ⟨by first | rfl | (simp [*] <;> rfl), by repeat (first | (with_reducible first | exact HB.out | apply ba_ | apply bn_ | apply bd_ | refine bs_ ?_ Bl.out) | exact HB.out)⟩
 ·rw [if_neg c3] at H
  have Bm : (Bj == 0) = false := beq_eq_false_iff_ne.mpr c3
  have Bn : (Bj != 0) = true := bne_iff_ne.mpr c3
  obtain rfl := Option.some.inj H
  go_enter Try.func61, Try.ntmps61
  go_wp2_with (first | ((with_reducible refine gate_dst (N := 1) rfl ?_); refine bxe_ 1 24 #[.int .i64 B3, .int .i64 B4, .int .i64 B5, .int .i64 B6, .int .i64 B7, .int .i64 B8, .int .i64 B9, .int .i64 Ba, .int .i64 Bb, .int .i64 Bc, .slice Bd B2.length Be] ?_; intro B1 hg w10 hbox hb; have B0 := am_ (hbox); have Bk := gwk_ HB hg; have Bl := Bk; replace HB := bst_ HB hb; clear hb hbox hg; have Bo := cells_11 B0.out; have Bp := frozen_11 B0.out) | ((with_reducible refine gate_callee (f := 56) rfl ?_); refine gom_ (some 4) Try.func56 (r03_Plain.calls k B3 B4 B5 B6 B7 B8 B9 Ba Bb Bc _ _ B2 _ _ (Kd.C_below Bf.out HB.out) Bg.out A2.out) ?_; rintro e w12 ⟨rfl, hb⟩; refine ⟨_, rfl, ?_⟩; replace B0 := bkb_ B0 hb; replace HB := bst_ HB hb; (try clear hb)))
  go_ret
  exact ⟨by first | rfl | (simp [*] <;> rfl), by repeat (first | (with_reducible first | exact HB.out | apply ba_ | apply bn_ | apply bd_ | refine bs_ ?_ Bl.out) | exact HB.out)⟩
end Go.Proofs.Ythdoghhmooodjaa.Gn
namespace Go.Proofs.Ythdoghhmooodjaa.Gn
open Go.RowKit Go.Proofs.YthdoghhmooodjaaW.PrintWords Go.Proofs.YthdoghhmooodjaaW.PrintLast Go.Proofs.YthdoghhmooodjaaW.PrintMore
attribute [local go_sem] max2_int min2_int max_two min_two max_three min_three max_four min_four   -- for this text's walks alone
set_option linter.unusedVariables false
set_option linter.unusedSimpArgs false
def r34_All.f (k : Nat) (B4 B5 B6 B7 B8 B9 Ba Bb Bc Bd : Int) (B0 B1 : List Int) (B2 : List ByteArray) (B3 : List (S44)) : Option (Int) := (r33_Right.f k B4 B5 B6 B7 B8 B9 Ba Bb Bc Bd B0 B1 B2 B3).bind fun Be => (if Be = 0 then ((r34_Last.f k B4 B5 B6 B7 B8 B9 Ba Bb Bc Bd B0 B1 B2 B3).bind fun Bf => ((r04_All.f k B4 B5 B6 B7 B8 B9 Ba Bb Bc Bd B0).bind fun Bg => (some (wrap64 (Bf + Bg))))) else (some 0))
set_option maxHeartbeats 8000000 in
set_option maxRecDepth 100000 in
theorem r34_All.calls (k : Nat) (B6 B7 B8 B9 Ba Bb Bc Bd Be Bf : Int) (Bi : Option Addr) (Bj : Nat) (B2 : List Int) (Bk : Option Addr) (Bl : Nat) (B3 : List Int) (Bm : Option Addr) (Bn : Nat) (B4 : List ByteArray) (Bo : Option Addr) (Bp : Nat) (B5 : List (S44)) (r : Int) (w : World) (Bw : Kd.C (Kd.int .i64) w Bi B2.length B2) (Bx : B2.length ≤ Bj) (By : Kd.C (Kd.int .i64) w Bk B3.length B3) (Bz : B3.length ≤ Bl) (D0 : Kd.C Kd.string w Bm B4.length B4) (D1 : B4.length ≤ Bn) (D2 : Kd.C k44 w Bo B5.length B5) (D3 : B5.length ≤ Bp) (h : r34_All.f k B6 B7 B8 B9 Ba Bb Bc Bd Be Bf B2 B3 B4 B5 = some r) :
  Calls Try.prog 35 #[.agg #[.int .i64 B6, .int .i64 B7, .int .i64 B8, .int .i64 B9, .int .i64 Ba, .int .i64 Bb, .int .i64 Bc, .int .i64 Bd, .int .i64 Be, .int .i64 Bf, .slice Bi B2.length Bj, .slice Bk B3.length Bl, .slice Bm B4.length Bn, .slice Bo B5.length Bp]] w fun e w' => e = .returned (.int .i64 r) ∧ Below w.heap.size w w' := by
 have Dg := Try.underlying24
 have Bg := am_ Bw
 have Bh := am_ Bx
 clear Bw Bx
 have Bq := am_ By
 have Br := am_ Bz
 clear By Bz
 have Bs := am_ D0
 have Bt := am_ D1
 clear D0 D1
 have Bu := am_ D2
 have Bv := am_ D3
 clear D2 D3
 have HB := am_ (Below.refl w.heap.size w)
 have H := h
 unfold r34_All.f at H
 clear h
 obtain ⟨D4, A2, H⟩ := bes_ H
 try dsimp only at H
 by_cases c3 : D4 = 0
 ·rw [if_pos c3] at H
  have D7 : (D4 == 0) = true := beq_iff_eq.mpr c3
  have D8 : (D4 != 0) = false := bne_eq_false_iff_eq.mpr c3
  clear c3
  obtain ⟨D9, A4, H⟩ := bes_ H
  try dsimp only at H
  replace H := Option.bind_eq_some_iff.mp H
  obtain ⟨Da, Df, H⟩ := H
  replace H : (some (wrap64 (D9 + Da))) = some r := H
  have A5 := am_ Df
  clear Df
  obtain rfl := Option.some.inj H
  go_enter Try.func35, Try.ntmps35
  try go_wp2_with (first | ((with_reducible refine gate_load (t := 28) (x := .tmp 1) rfl ?_); refine lrg_ 28 (.tmp 1) B1 28 (by exact B0.out) Try.underlying28 ?_) | ((with_reducible refine gate_dst (N := 1) rfl ?_); refine bxe_ 1 28 #[.int .i64 B6, .int .i64 B7, .int .i64 B8, .int .i64 B9, .int .i64 Ba, .int .i64 Bb, .int .i64 Bc, .int .i64 Bd, .int .i64 Be, .int .i64 Bf, .slice Bi B2.length Bj, .slice Bk B3.length Bl, .slice Bm B4.length Bn, .slice Bo B5.length Bp] ?_; intro B1 hg w6 hbox hb; have B0 := am_ (hbox); have D5 := gwk_ HB hg; have D6 := D5; replace HB := bst_ HB hb; clear hb hbox hg; have Db := cells_14 B0.out; have Dc := frozen_14 B0.out) | ((with_reducible refine gate_callee (f := 13) rfl ?_); refine gom_ (some 4) Try.func13 (r33_Right.calls k B6 B7 B8 B9 Ba Bb Bc Bd Be Bf _ _ B2 _ _ B3 _ _ B4 _ _ B5 _ _ (Kd.C_below Bg.out HB.out) Bh.out (Kd.C_below Bq.out HB.out) Br.out (Kd.C_below Bs.out HB.out) Bt.out (Kd.C_below Bu.out HB.out) Bv.out A2.out) ?_; rintro e w8 ⟨rfl, hb⟩; refine ⟨_, rfl, ?_⟩; replace B0 := bkb_ B0 hb; replace HB := bst_ HB hb; (try clear hb)))
  replace B0 := am_ (blk_drew B0.out)
  replace HB := am_ (below_drew1 HB.out)
  refine start_ (n := 7) (S := fun w' => ce_ w' B1 0 (.int .i64 B6) ∧ ce_ w' B1 1 (.int .i64 B7) ∧ ce_ w' B1 2 (.int .i64 B8) ∧ ce_ w' B1 3 (.int .i64 B9) ∧ ce_ w' B1 4 (.int .i64 Ba) ∧ ce_ w' B1 5 (.int .i64 Bb) ∧ ce_ w' B1 6 (.int .i64 Bc) ∧ ce_ w' B1 7 (.int .i64 Bd) ∧ ce_ w' B1 8 (.int .i64 Be) ∧ ce_ w' B1 9 (.int .i64 Bf) ∧ ce_ w' B1 10 (.slice Bi B2.length Bj) ∧ ce_ w' B1 11 (.slice Bk B3.length Bl) ∧ ce_ w' B1 12 (.slice Bm B4.length Bn) ∧ ce_ w' B1 13 (.slice Bo B5.length Bp)) (ds := []) #[false, false, false, false, false, false, false] (by kernel_rfl) rfl rfl ⟨(blk_cell B0.out 0).trans rfl, (blk_cell B0.out 1).trans rfl, (blk_cell B0.out 2).trans rfl, (blk_cell B0.out 3).trans rfl, (blk_cell B0.out 4).trans rfl, (blk_cell B0.out 5).trans rfl, (blk_cell B0.out 6).trans rfl, (blk_cell B0.out 7).trans rfl, (blk_cell B0.out 8).trans rfl, (blk_cell B0.out 9).trans rfl, (blk_cell B0.out 10).trans rfl, (blk_cell B0.out 11).trans rfl, (blk_cell B0.out 12).trans rfl, (blk_cell B0.out 13).trans rfl⟩ (fun hHeld => ?_)
  generalize w8.drew = w9 at B0 HB hHeld ⊢
  refine pur_ 2 (some 8) rfl rfl (by kernel_rfl) ?_
  refine tak_ 0 (some 6) rfl rfl (by kernel_rfl) hHeld ?_ (by rintro w' ⟨s0, s1, s2, s3, s4, s5, s6, s7, s8, s9, s10, s11, s12, s13⟩; (first | (refine load_cells_14 (ty := 28) (x := .tmp 1) (g := B1) ?hlo_ ?hx_ Try.underlying28 ?hd_ ?hi_ s0 s1 s2 s3 s4 s5 s6 s7 s8 s9 s10 s11 s12 s13; (case hlo_ => rfl); (case hx_ => rfl); (case hd_ => rfl); (case hi_ => kernel_rfl)) | (go_simp; with_reducible rfl)))
  refine tak_ 3 (some 9) rfl rfl (by kernel_rfl) hHeld ?_ (by rintro w' ⟨s0, s1, s2, s3, s4, s5, s6, s7, s8, s9, s10, s11, s12, s13⟩; (first | (refine load_cells_14 (ty := 28) (x := .tmp 1) (g := B1) ?hlo_ ?hx_ Try.underlying28 ?hd_ ?hi_ s0 s1 s2 s3 s4 s5 s6 s7 s8 s9 s10 s11 s12 s13; (case hlo_ => rfl); (case hx_ => rfl); (case hd_ => rfl); (case hi_ => kernel_rfl)) | (go_simp; with_reducible rfl)))
  refine oon_ 1 (some 7) rfl rfl (by kernel_rfl) (fun K hK => ?_)
  refine gos_ Try.func31 (r34_Last.calls k B6 B7 B8 B9 Ba Bb Bc Bd Be Bf _ _ B2 _ _ B3 _ _ B4 _ _ B5 _ _ (Kd.C_below Bg.out HB.out) Bh.out (Kd.C_below Bq.out HB.out) Br.out (Kd.C_below Bs.out HB.out) Bt.out (Kd.C_below Bu.out HB.out) Bv.out A4.out) ?_
  rintro e w10 ⟨rfl, hb⟩
  refine ⟨_, rfl, ?_⟩
  replace B0 := bkb_ B0 hb
  replace HB := bst_ HB hb
  (try clear hb)
  (try clear hb2)
  (try clear hk)
  (try clear hi)
  refine hK.out _ _ (cells_14 B0.out) (fun hHeld => ?_)
  clear hK K
  refine nor_ 7 ?_
  refine oon_ 4 (some 10) rfl rfl (by kernel_rfl) (fun K hK => ?_)
  refine gos_ Try.func61 (r04_All.calls k B6 B7 B8 B9 Ba Bb Bc Bd Be Bf _ _ B2 _ _ (Kd.C_below Bg.out HB.out) Bh.out A5.out) ?_
  rintro e w11 ⟨rfl, hb⟩
  refine ⟨_, rfl, ?_⟩
  replace B0 := bkb_ B0 hb
  replace HB := bst_ HB hb
  (try clear hb)
  (try clear hb2)
  (try clear hk)
  (try clear hi)
  refine hK.out _ _ (cells_14 B0.out) (fun hHeld => ?_)
  clear hK K
  refine nor_ 10 ?_
  refine pur_ 5 (some 11) rfl rfl (by kernel_rfl) ?_
  refine pur_ 6 (some 2) rfl rfl (by kernel_rfl) ?_
  refine done_ (by kernel_rfl) ?_
  try go_wp2
  go_ret
  exact ⟨by first | rfl | (simp [*] <;> rfl), by repeat (first | (with_reducible first | exact HB.out | apply ba_ | apply bn_ | apply bd_ | refine bs_ ?_ D6.out) | exact HB.out)⟩
 ·rw [if_neg c3] at H
  have D7 : (D4 == 0) = false := beq_eq_false_iff_ne.mpr c3
  have D8 : (D4 != 0) = true := bne_iff_ne.mpr c3
  obtain rfl := Option.some.inj H
  go_enter Try.func35, Try.ntmps35
  go_wp2_with (first | ((with_reducible refine gate_load (t := 28) (x := .tmp 1) rfl ?_); refine lrg_ 28 (.tmp 1) B1 28 (by exact B0.out) Try.underlying28 ?_) | ((with_reducible refine gate_dst (N := 1) rfl ?_); refine bxe_ 1 28 #[.int .i64 B6, .int .i64 B7, .int .i64 B8, .int .i64 B9, .int .i64 Ba, .int .i64 Bb, .int .i64 Bc, .int .i64 Bd, .int .i64 Be, .int .i64 Bf, .slice Bi B2.length Bj, .slice Bk B3.length Bl, .slice Bm B4.length Bn, .slice Bo B5.length Bp] ?_; intro B1 hg w12 hbox hb; have B0 := am_ (hbox); have D5 := gwk_ HB hg; have D6 := D5; replace HB := bst_ HB hb; clear hb hbox hg; have Dd := cells_14 B0.out; have De := frozen_14 B0.out) | ((with_reducible refine gate_callee (f := 13) rfl ?_); refine gom_ (some 4) Try.func13 (r33_Right.calls k B6 B7 B8 B9 Ba Bb Bc Bd Be Bf _ _ B2 _ _ B3 _ _ B4 _ _ B5 _ _ (Kd.C_below Bg.out HB.out) Bh.out (Kd.C_below Bq.out HB.out) Br.out (Kd.C_below Bs.out HB.out) Bt.out (Kd.C_below Bu.out HB.out) Bv.out A2.out) ?_; rintro e w14 ⟨rfl, hb⟩; refine ⟨_, rfl, ?_⟩; replace B0 := bkb_ B0 hb; replace HB := bst_ HB hb; (try clear hb)))
  go_ret
  exact ⟨by first | rfl | (simp [*] <;> rfl), by repeat (first | (with_reducible first | exact HB.out | apply ba_ | apply bn_ | apply bd_ | refine bs_ ?_ D6.out) | exact HB.out)⟩
end Go.Proofs.Ythdoghhmooodjaa.Gn
namespace Go.Proofs.Ythdoghhmooodjaa.Gn
open Go.RowKit Go.Proofs.YthdoghhmooodjaaW.PrintWords Go.Proofs.YthdoghhmooodjaaW.PrintLast Go.Proofs.YthdoghhmooodjaaW.PrintMore
attribute [local go_sem] max2_int min2_int max_two min_two max_three min_three max_four min_four   -- for this text's walks alone
set_option linter.unusedVariables false
set_option linter.unusedSimpArgs false
def l34_PremiseLast.f (k : Nat) (B4 B5 B6 B7 B8 B9 Ba Bb Bc Bd : Int) (B0 B1 : List Int) (B2 : List ByteArray) (B3 : List (S44)) : Option (Bool) := (r33_Few.f k B4 B5 B6 B7 B8 B9 Ba Bb Bc Bd B0 B1 B2 B3 2100).bind fun Be => (if Be = true then ((premise_Last.f k B4 B5 B6 B7 B8 B9 Ba Bb Bc Bd B0 B1 B2 B3).bind fun Bf => ((r34_Last.f k B4 B5 B6 B7 B8 B9 Ba Bb Bc Bd B0 B1 B2 B3).bind fun Bg => (if Bf = Bg then ((premise_Settled.f k B4 B5 B6 B7 B8 B9 Ba Bb Bc Bd B0 B1 B2 B3).bind fun Bh => ((r34_Settled.f k B4 B5 B6 B7 B8 B9 Ba Bb Bc Bd B0 B1 B2 B3).bind fun Bi => (if Bh = Bi then ((premise_All.f k B4 B5 B6 B7 B8 B9 Ba Bb Bc Bd B0 B1 B2 B3).bind fun Bj => ((r34_All.f k B4 B5 B6 B7 B8 B9 Ba Bb Bc Bd B0 B1 B2 B3).bind fun Bk => (if Bj = Bk then ((l34_known.f k).bind fun Bl => (some Bl)) else (none)))) else (none)))) else (none)))) else ((l34_known.f k).bind fun Bm => (some Bm)))
def l34_PremiseLast.T3 : Bool × List (List Nat × List Nat) := (true, [([], []), ([0], [0]), ([], []), ([2, 1], [2]), ([1, 3], [1, 3]), ([4, 3], [4]), ([5], [5]), ([6, 5, 5], [5, 6]), ([5], [5]), ([8, 7, 5], [5, 8]), ([7, 9, 5], [5, 7, 9]), ([5, 10], [5, 10]), ([11, 9], [11]), ([12], [12]), ([13, 12, 12], [12, 13]), ([12], [12]), ([15, 14, 12], [12, 15]), ([14, 16, 12], [12, 14, 16]), ([12, 17], [12, 17]), ([18, 16], [18]), ([19, 19], [19]), ([19, 20], [19, 20]), ([21, 20, 0, 1, 2, 3, 4, 5, 6, 7, 8, 9, 10, 11, 12, 13, 14, 15, 16, 17, 18, 19, 20, 21], [21])])
def l34_PremiseLast.B3 : List Nat := [0, 1, 0, 7, 15, 31, 63, 127, 63, 511, 1023, 2047, 4095, 8191, 16383, 8191, 65535, 131071, 262143, 524287, 1048575, 2097151, 4194303]
theorem l34_PremiseLast.tab3 : rtab .any (opsOf Try.f8 3) = l34_PremiseLast.T3 := by kernel_rfl
theorem l34_PremiseLast.bits3 : waitsOk l34_PremiseLast.T3.2 l34_PremiseLast.B3 = true := by kernel_rfl
set_option maxHeartbeats 8000000 in
set_option maxRecDepth 100000 in
theorem l34_PremiseLast.calls (k : Nat) (Be Bf Bg Bh Bi Bj Bk Bl Bm Bn : Int) (Bo : Option Addr) (Bp : Nat) (B2 : List Int) (Bq : Option Addr) (Br : Nat) (B3 : List Int) (Bs : Option Addr) (Bt : Nat) (B4 : List ByteArray) (Bu : Option Addr) (Bv : Nat) (B5 : List (S44)) (r : Bool) (w : World) (Bw : Kd.C (Kd.int .i64) w Bo B2.length B2) (Bx : B2.length ≤ Bp) (By : Kd.C (Kd.int .i64) w Bq B3.length B3) (Bz : B3.length ≤ Br) (D0 : Kd.C Kd.string w Bs B4.length B4) (D1 : B4.length ≤ Bt) (D2 : Kd.C k44 w Bu B5.length B5) (D3 : B5.length ≤ Bv) (h : l34_PremiseLast.f k Be Bf Bg Bh Bi Bj Bk Bl Bm Bn B2 B3 B4 B5 = some r) :
  Calls Try.prog 8 #[.agg #[.int .i64 Be, .int .i64 Bf, .int .i64 Bg, .int .i64 Bh, .int .i64 Bi, .int .i64 Bj, .int .i64 Bk, .int .i64 Bl, .int .i64 Bm, .int .i64 Bn, .slice Bo B2.length Bp, .slice Bq B3.length Br, .slice Bs B4.length Bt, .slice Bu B5.length Bv]] w fun e w' => e = .returned (.bool r) ∧ Below w.heap.size w w' := by
 have B6 := am_ Bw
 have B7 := am_ Bx
 clear Bw Bx
 have B8 := am_ By
 have B9 := am_ Bz
 clear By Bz
 have Ba := am_ D0
 have Bb := am_ D1
 clear D0 D1
 have Bc := am_ D2
 have Bd := am_ D3
 clear D2 D3
 have HB := am_ (Below.refl w.heap.size w)
 have H := h
 unfold l34_PremiseLast.f at H
 clear h
 obtain ⟨Dh, A2, H⟩ := bes_ H
 try dsimp only at H
 by_cases c3 : Dh = true
 ·subst c3
  rw [if_pos rfl] at H
  obtain ⟨D4, A4, H⟩ := bes_ H
  try dsimp only at H
  obtain ⟨D5, A5, H⟩ := bes_ H
  try dsimp only at H
  by_cases c6 : D4 = D5
  ·rw [if_pos c6] at H
   have Di : (D4 == D5) = true := beq_iff_eq.mpr c6
   have Dj : (D4 != D5) = false := bne_eq_false_iff_eq.mpr c6
   clear c6
   obtain ⟨D6, A7, H⟩ := bes_ H
   try dsimp only at H
   obtain ⟨D7, A8, H⟩ := bes_ H
   try dsimp only at H
   by_cases c9 : D6 = D7
   ·rw [if_pos c9] at H
    have Dk : (D6 == D7) = true := beq_iff_eq.mpr c9
    have Dl : (D6 != D7) = false := bne_eq_false_iff_eq.mpr c9
    clear c9
    obtain ⟨D8, Ds, H⟩ := bes_ H
    try dsimp only at H
    obtain ⟨D9, Dt, H⟩ := bes_ H
    try dsimp only at H
    by_cases Dc : D8 = D9
    ·rw [if_pos Dc] at H
     have Dd : (D8 == D9) = true := beq_iff_eq.mpr Dc
     have De : (D8 != D9) = false := bne_eq_false_iff_eq.mpr Dc
     clear Dc
     replace H := Option.bind_eq_some_iff.mp H
     obtain ⟨Dm, Df, H⟩ := H
     replace H : (some Dm) = some r := H
     have Du := am_ Df
     clear Df
     obtain rfl := Option.some.inj H
     go_enter Try.func8, Try.ntmps8
     try go_wp2_with (first | ((with_reducible refine gate_load (t := 28) (x := .tmp 1) rfl ?_); refine lrg_ 28 (.tmp 1) B1 28 (by exact B0.out) Try.underlying28 ?_) | ((with_reducible refine gate_dst (N := 1) rfl ?_); refine bxe_ 1 28 #[.int .i64 Be, .int .i64 Bf, .int .i64 Bg, .int .i64 Bh, .int .i64 Bi, .int .i64 Bj, .int .i64 Bk, .int .i64 Bl, .int .i64 Bm, .int .i64 Bn, .slice Bo B2.length Bp, .slice Bq B3.length Br, .slice Bs B4.length Bt, .slice Bu B5.length Bv] ?_; intro B1 hg w14 hbox hb; have B0 := am_ (hbox); have Da := gwk_ HB hg; have Db := Da; replace HB := bst_ HB hb; clear hb hbox hg; have Dn := cells_14 B0.out; have Do := frozen_14 B0.out) | ((with_reducible refine gate_callee (f := 10) rfl ?_); refine gom_ (some 4) Try.func10 (r33_Few.calls k Be Bf Bg Bh Bi Bj Bk Bl Bm Bn _ _ B2 _ _ B3 _ _ B4 _ _ B5 2100 _ _ (Kd.C_below B6.out HB.out) B7.out (Kd.C_below B8.out HB.out) B9.out (Kd.C_below Ba.out HB.out) Bb.out (Kd.C_below Bc.out HB.out) Bd.out A2.out) ?_; rintro e w16 ⟨rfl, hb⟩; refine ⟨_, rfl, ?_⟩; replace B0 := bkb_ B0 hb; replace HB := bst_ HB hb; (try clear hb)))
     replace B0 := am_ (blk_drew B0.out)
     replace HB := am_ (below_drew1 HB.out)
     refine start_ (n := 23) (S := fun w' => ce_ w' B1 0 (.int .i64 Be) ∧ ce_ w' B1 1 (.int .i64 Bf) ∧ ce_ w' B1 2 (.int .i64 Bg) ∧ ce_ w' B1 3 (.int .i64 Bh) ∧ ce_ w' B1 4 (.int .i64 Bi) ∧ ce_ w' B1 5 (.int .i64 Bj) ∧ ce_ w' B1 6 (.int .i64 Bk) ∧ ce_ w' B1 7 (.int .i64 Bl) ∧ ce_ w' B1 8 (.int .i64 Bm) ∧ ce_ w' B1 9 (.int .i64 Bn) ∧ ce_ w' B1 10 (.slice Bo B2.length Bp) ∧ ce_ w' B1 11 (.slice Bq B3.length Br) ∧ ce_ w' B1 12 (.slice Bs B4.length Bt) ∧ ce_ w' B1 13 (.slice Bu B5.length Bv)) (ds := []) #[false, false, false, false, false, false, false, false, false, false, false, false, false, false, false, false, false, false, false, false, false, false, false] (by kernel_rfl) rfl rfl ⟨(blk_cell B0.out 0).trans rfl, (blk_cell B0.out 1).trans rfl, (blk_cell B0.out 2).trans rfl, (blk_cell B0.out 3).trans rfl, (blk_cell B0.out 4).trans rfl, (blk_cell B0.out 5).trans rfl, (blk_cell B0.out 6).trans rfl, (blk_cell B0.out 7).trans rfl, (blk_cell B0.out 8).trans rfl, (blk_cell B0.out 9).trans rfl, (blk_cell B0.out 10).trans rfl, (blk_cell B0.out 11).trans rfl, (blk_cell B0.out 12).trans rfl, (blk_cell B0.out 13).trans rfl⟩ (fun hHeld => ?_); refine with_tabW l34_PremiseLast.tab3 l34_PremiseLast.bits3 (fun HT_ HW_ => ?_)
     generalize w16.drew = w17 at B0 HB hHeld ⊢
     refine tak_ 0 (some 7) rfl rfl (take_ofW HT_.out HW_.out (by kernel_rfl)) hHeld ?_ (by rintro w' ⟨s0, s1, s2, s3, s4, s5, s6, s7, s8, s9, s10, s11, s12, s13⟩; (first | (refine load_cells_14 (ty := 28) (x := .tmp 1) (g := B1) ?hlo_ ?hx_ Try.underlying28 ?hd_ ?hi_ s0 s1 s2 s3 s4 s5 s6 s7 s8 s9 s10 s11 s12 s13; (case hlo_ => rfl); (case hx_ => rfl); (case hd_ => rfl); (case hi_ => kernel_rfl)) | (go_simp; with_reducible rfl)))
     refine tak_ 2 (some 9) rfl rfl (take_ofW HT_.out HW_.out (by kernel_rfl)) hHeld ?_ (by rintro w' ⟨s0, s1, s2, s3, s4, s5, s6, s7, s8, s9, s10, s11, s12, s13⟩; (first | (refine load_cells_14 (ty := 28) (x := .tmp 1) (g := B1) ?hlo_ ?hx_ Try.underlying28 ?hd_ ?hi_ s0 s1 s2 s3 s4 s5 s6 s7 s8 s9 s10 s11 s12 s13; (case hlo_ => rfl); (case hx_ => rfl); (case hd_ => rfl); (case hi_ => kernel_rfl)) | (go_simp; with_reducible rfl)))
     refine oon_ 1 (some 8) rfl rfl (one_of HT_.out (by kernel_rfl)) (fun K hK => ?_)
     refine gos_ Try.func30 (premise_Last.calls k Be Bf Bg Bh Bi Bj Bk Bl Bm Bn _ _ B2 _ _ B3 _ _ B4 _ _ B5 _ _ (Kd.C_below B6.out HB.out) B7.out (Kd.C_below B8.out HB.out) B9.out (Kd.C_below Ba.out HB.out) Bb.out (Kd.C_below Bc.out HB.out) Bd.out A4.out) ?_
     rintro e w18 ⟨rfl, hb⟩
     refine ⟨_, rfl, ?_⟩
     replace B0 := bkb_ B0 hb
     replace HB := bst_ HB hb
     (try clear hb)
     (try clear hb2)
     (try clear hk)
     (try clear hi)
     refine hK.out _ _ (cells_14 B0.out) (fun hHeld => ?_)
     clear hK K
     refine nor_ 8 ?_
     refine oon_ 3 (some 10) rfl rfl (one_of HT_.out (by kernel_rfl)) (fun K hK => ?_)
     refine gos_ Try.func31 (r34_Last.calls k Be Bf Bg Bh Bi Bj Bk Bl Bm Bn _ _ B2 _ _ B3 _ _ B4 _ _ B5 _ _ (Kd.C_below B6.out HB.out) B7.out (Kd.C_below B8.out HB.out) B9.out (Kd.C_below Ba.out HB.out) Bb.out (Kd.C_below Bc.out HB.out) Bd.out A5.out) ?_
     rintro e w19 ⟨rfl, hb⟩
     refine ⟨_, rfl, ?_⟩
     replace B0 := bkb_ B0 hb
     replace HB := bst_ HB hb
     (try clear hb)
     (try clear hb2)
     (try clear hk)
     (try clear hi)
     refine hK.out _ _ (cells_14 B0.out) (fun hHeld => ?_)
     clear hK K
     refine nor_ 10 ?_
     refine pur_ 4 (some 11) rfl rfl (any_of HT_.out (by kernel_rfl)) ?_
     refine pur_ 5 (some 12) rfl rfl (any_of HT_.out (by kernel_rfl)) ?_
     refine tak_ 6 (some 13) rfl rfl (take_ofW HT_.out HW_.out (by kernel_rfl)) hHeld ?_ (by rintro w' ⟨s0, s1, s2, s3, s4, s5, s6, s7, s8, s9, s10, s11, s12, s13⟩; (first | (refine load_cells_14 (ty := 28) (x := .tmp 1) (g := B1) ?hlo_ ?hx_ Try.underlying28 ?hd_ ?hi_ s0 s1 s2 s3 s4 s5 s6 s7 s8 s9 s10 s11 s12 s13; (case hlo_ => rfl); (case hx_ => rfl); (case hd_ => rfl); (case hi_ => kernel_rfl)) | (go_simp; with_reducible rfl)))
     refine tak_ 8 (some 15) rfl rfl (take_ofW HT_.out HW_.out (by kernel_rfl)) hHeld ?_ (by rintro w' ⟨s0, s1, s2, s3, s4, s5, s6, s7, s8, s9, s10, s11, s12, s13⟩; (first | (refine load_cells_14 (ty := 28) (x := .tmp 1) (g := B1) ?hlo_ ?hx_ Try.underlying28 ?hd_ ?hi_ s0 s1 s2 s3 s4 s5 s6 s7 s8 s9 s10 s11 s12 s13; (case hlo_ => rfl); (case hx_ => rfl); (case hd_ => rfl); (case hi_ => kernel_rfl)) | (go_simp; with_reducible rfl)))
     refine oon_ 7 (some 14) rfl rfl (one_of HT_.out (by kernel_rfl)) (fun K hK => ?_)
     refine gos_ Try.func32 (premise_Settled.calls k Be Bf Bg Bh Bi Bj Bk Bl Bm Bn _ _ B2 _ _ B3 _ _ B4 _ _ B5 _ _ (Kd.C_below B6.out HB.out) B7.out (Kd.C_below B8.out HB.out) B9.out (Kd.C_below Ba.out HB.out) Bb.out (Kd.C_below Bc.out HB.out) Bd.out A7.out) ?_
     rintro e w20 ⟨rfl, hb⟩
     refine ⟨_, rfl, ?_⟩
     replace B0 := bkb_ B0 hb
     replace HB := bst_ HB hb
     (try clear hb)
     (try clear hb2)
     (try clear hk)
     (try clear hi)
     refine hK.out _ _ (cells_14 B0.out) (fun hHeld => ?_)
     clear hK K
     refine nor_ 14 ?_
     refine oon_ 9 (some 16) rfl rfl (one_of HT_.out (by kernel_rfl)) (fun K hK => ?_)
     refine gos_ Try.func33 (r34_Settled.calls k Be Bf Bg Bh Bi Bj Bk Bl Bm Bn _ _ B2 _ _ B3 _ _ B4 _ _ B5 _ _ (Kd.C_below B6.out HB.out) B7.out (Kd.C_below B8.out HB.out) B9.out (Kd.C_below Ba.out HB.out) Bb.out (Kd.C_below Bc.out HB.out) Bd.out A8.out) ?_
     rintro e w21 ⟨rfl, hb⟩
     refine ⟨_, rfl, ?_⟩
     replace B0 := bkb_ B0 hb
     replace HB := bst_ HB hb
     (try clear hb)
     (try clear hb2)
     (try clear hk)
     (try clear hi)
     refine hK.out _ _ (cells_14 B0.out) (fun hHeld => ?_)
     clear hK K
     refine nor_ 16 ?_
     refine pur_ 10 (some 17) rfl rfl (any_of HT_.out (by kernel_rfl)) ?_
     refine pur_ 11 (some 18) rfl rfl (any_of HT_.out (by kernel_rfl)) ?_
     refine pur_ 12 (some 19) rfl rfl (any_of HT_.out (by kernel_rfl)) ?_
     refine tak_ 13 (some 20) rfl rfl (take_ofW HT_.out HW_.out (by kernel_rfl)) hHeld ?_ (by rintro w' ⟨s0, s1, s2, s3, s4, s5, s6, s7, s8, s9, s10, s11, s12, s13⟩; (first | (refine load_cells_14 (ty := 28) (x := .tmp 1) (g := B1) ?hlo_ ?hx_ Try.underlying28 ?hd_ ?hi_ s0 s1 s2 s3 s4 s5 s6 s7 s8 s9 s10 s11 s12 s13; (case hlo_ => rfl); (case hx_ => rfl); (case hd_ => rfl); (case hi_ => kernel_rfl)) | (go_simp; with_reducible rfl)))
     refine tak_ 15 (some 22) rfl rfl (take_ofW HT_.out HW_.out (by kernel_rfl)) hHeld ?_ (by rintro w' ⟨s0, s1, s2, s3, s4, s5, s6, s7, s8, s9, s10, s11, s12, s13⟩; (first | (refine load_cells_14 (ty := 28) (x := .tmp 1) (g := B1) ?hlo_ ?hx_ Try.underlying28 ?hd_ ?hi_ s0 s1 s2 s3 s4 s5 s6 s7 s8 s9 s10 s11 s12 s13; (case hlo_ => rfl); (case hx_ => rfl); (case hd_ => rfl); (case hi_ => kernel_rfl)) | (go_simp; with_reducible rfl)))
     refine oon_ 14 (some 21) rfl rfl (one_of HT_.out (by kernel_rfl)) (fun K hK => ?_)
     refine gos_ Try.func34 (premise_All.calls k Be Bf Bg Bh Bi Bj Bk Bl Bm Bn _ _ B2 _ _ B3 _ _ B4 _ _ B5 _ _ (Kd.C_below B6.out HB.out) B7.out (Kd.C_below B8.out HB.out) B9.out (Kd.C_below Ba.out HB.out) Bb.out (Kd.C_below Bc.out HB.out) Bd.out Ds.out) ?_
     rintro e w22 ⟨rfl, hb⟩
     refine ⟨_, rfl, ?_⟩
     replace B0 := bkb_ B0 hb
     replace HB := bst_ HB hb
     (try clear hb)
     (try clear hb2)
     (try clear hk)
     (try clear hi)
     refine hK.out _ _ (cells_14 B0.out) (fun hHeld => ?_)
     clear hK K
     refine nor_ 21 ?_
     refine oon_ 16 (some 23) rfl rfl (one_of HT_.out (by kernel_rfl)) (fun K hK => ?_)
     refine gos_ Try.func35 (r34_All.calls k Be Bf Bg Bh Bi Bj Bk Bl Bm Bn _ _ B2 _ _ B3 _ _ B4 _ _ B5 _ _ (Kd.C_below B6.out HB.out) B7.out (Kd.C_below B8.out HB.out) B9.out (Kd.C_below Ba.out HB.out) Bb.out (Kd.C_below Bc.out HB.out) Bd.out Dt.out) ?_
     rintro e w23 ⟨rfl, hb⟩
     refine ⟨_, rfl, ?_⟩
     replace B0 := bkb_ B0 hb
     replace HB := bst_ HB hb
     (try clear hb)
     (try clear hb2)
     (try clear hk)
     (try clear hi)
     refine hK.out _ _ (cells_14 B0.out) (fun hHeld => ?_)
     clear hK K
     refine nor_ 23 ?_
     refine pur_ 17 (some 24) rfl rfl (any_of HT_.out (by kernel_rfl)) ?_
     refine pur_ 18 (some 25) rfl rfl (any_of HT_.out (by kernel_rfl)) ?_
     refine pur_ 19 (some 26) rfl rfl (any_of HT_.out (by kernel_rfl)) ?_
     refine oon_ 20 (some 27) rfl rfl (one_of HT_.out (by kernel_rfl)) (fun K hK => ?_)
     refine gos_ Try.func25 (l34_known.calls k  _ _ Du.out) ?_
     rintro e w24 ⟨rfl, hb⟩
     refine ⟨_, rfl, ?_⟩
     replace B0 := bkb_ B0 hb
     replace HB := bst_ HB hb
     (try clear hb)
     (try clear hb2)
     (try clear hk)
     (try clear hi)
     refine hK.out _ _ (cells_14 B0.out) (fun hHeld => ?_)
     clear hK K
     refine nor_ 27 ?_
     refine pur_ 21 (some 28) rfl rfl (any_of HT_.out (by kernel_rfl)) ?_
     refine pur_ 22 (some 2) rfl rfl (any_of HT_.out (by kernel_rfl)) ?_
     refine done_ (done_of HT_.out (by kernel_rfl)) ?_
     try go_wp2
     go_ret
     exact ⟨by first | rfl | (simp [*] <;> rfl), by repeat (first | (with_reducible first | exact HB.out | apply ba_ | apply bn_ | apply bd_ | refine bs_ ?_ Db.out) | exact HB.out)⟩
    ·rw [if_neg Dc] at H
     have Dd : (D8 == D9) = false := beq_eq_false_iff_ne.mpr Dc
     have De : (D8 != D9) = true := bne_iff_ne.mpr Dc
     exact absurd H (by simp)
   ·rw [if_neg c9] at H
    have Dk : (D6 == D7) = false := beq_eq_false_iff_ne.mpr c9
    have Dl : (D6 != D7) = true := bne_iff_ne.mpr c9
    exact absurd H (by simp)
  ·rw [if_neg c6] at H
   have Di : (D4 == D5) = false := beq_eq_false_iff_ne.mpr c6
   have Dj : (D4 != D5) = true := bne_iff_ne.mpr c6
   exact absurd H (by simp)
 ·replace c3 := Bool.eq_false_iff.mpr c3
  subst c3
  rw [if_neg (show ¬ (false = true) by decide)] at H
  replace H := Option.bind_eq_some_iff.mp H
  obtain ⟨Dp, Dg, H⟩ := H
  replace H : (some Dp) = some r := H
  have Dv := am_ Dg
  clear Dg
  obtain rfl := Option.some.inj H
  go_enter Try.func8, Try.ntmps8
  go_wp2_with (first | ((with_reducible refine gate_load (t := 28) (x := .tmp 1) rfl ?_); refine lrg_ 28 (.tmp 1) B1 28 (by exact B0.out) Try.underlying28 ?_) | ((with_reducible refine gate_dst (N := 1) rfl ?_); refine bxe_ 1 28 #[.int .i64 Be, .int .i64 Bf, .int .i64 Bg, .int .i64 Bh, .int .i64 Bi, .int .i64 Bj, .int .i64 Bk, .int .i64 Bl, .int .i64 Bm, .int .i64 Bn, .slice Bo B2.length Bp, .slice Bq B3.length Br, .slice Bs B4.length Bt, .slice Bu B5.length Bv] ?_; intro B1 hg w26 hbox hb; have B0 := am_ (hbox); have Da := gwk_ HB hg; have Db := Da; replace HB := bst_ HB hb; clear hb hbox hg; have Dq := cells_14 B0.out; have Dr := frozen_14 B0.out) | ((with_reducible refine gate_callee (f := 10) rfl ?_); refine gom_ (some 4) Try.func10 (r33_Few.calls k Be Bf Bg Bh Bi Bj Bk Bl Bm Bn _ _ B2 _ _ B3 _ _ B4 _ _ B5 2100 _ _ (Kd.C_below B6.out HB.out) B7.out (Kd.C_below B8.out HB.out) B9.out (Kd.C_below Ba.out HB.out) Bb.out (Kd.C_below Bc.out HB.out) Bd.out A2.out) ?_; rintro e w28 ⟨rfl, hb⟩; refine ⟨_, rfl, ?_⟩; replace B0 := bkb_ B0 hb; replace HB := bst_ HB hb; (try clear hb)) | ((with_reducible refine gate_callee (f := 25) rfl ?_); refine gom_ (some 6) Try.func25 (l34_known.calls k  _ _ Dv.out) ?_; rintro e w29 ⟨rfl, hb⟩; refine ⟨_, rfl, ?_⟩; replace B0 := bkb_ B0 hb; replace HB := bst_ HB hb; (try clear hb)))
  go_ret
  exact ⟨by first | rfl | (simp [*] <;> rfl), by repeat (first | (with_reducible first | exact HB.out | apply ba_ | apply bn_ | apply bd_ | refine bs_ ?_ Db.out) | exact HB.out)⟩
end Go.Proofs.Ythdoghhmooodjaa.Gn
