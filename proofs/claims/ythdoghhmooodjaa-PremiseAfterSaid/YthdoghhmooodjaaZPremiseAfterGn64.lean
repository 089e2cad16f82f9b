import Derived.Test.YthdoghhmooodjaaZPremiseAfterGn0
import Derived.Test.YthdoghhmooodjaaZPremiseAfterGn1
import Derived.Test.YthdoghhmooodjaaZPremiseAfterGn7
namespace Go.Proofs.Ythdoghhmooodjaa.Gn
open Go.RowKit Go.Proofs.YthdoghhmooodjaaW.PrintWords Go.Proofs.YthdoghhmooodjaaW.PrintLast Go.Proofs.YthdoghhmooodjaaW.PrintMore
attribute [local go_sem] max2_int min2_int max_two min_two max_three min_three max_four min_four   -- for this text's walks alone
set_option linter.unusedVariables false
set_option linter.unusedSimpArgs false
def script_Faulty.f (k : Nat) (B5 B6 B7 B8 B9 Ba Bb Bc Bd Be : Int) (B2 B0 : List Int) (B3 : List ByteArray) (B4 : List (S44)) (a1 : Int) : Option (Bool) := (slices_Contains_int_int.f k B0 a1).bind fun B1 => (some B1)
theorem script_Faulty.mono : ∀ a0 a1 a2 a3 a4 a5 a6 a7 a8 a9 B0 B1 B2 B3 B4 k, LeO (script_Faulty.f k a0 a1 a2 a3 a4 a5 a6 a7 a8 a9 B0 B1 B2 B3 B4) (script_Faulty.f (k + 1) a0 a1 a2 a3 a4 a5 a6 a7 a8 a9 B0 B1 B2 B3 B4) := by
 intro a0 a1 a2 a3 a4 a5 a6 a7 a8 a9 B0 B1 B2 B3 B4 k
 unfold script_Faulty.f
 repeat' first
   | (with_reducible exact slices_Contains_int_int.mono _ _ _)
   | (with_reducible exact LeO.refl _)
   | (with_reducible exact LeO.none _)
   | (with_reducible refine LeO.ite ?_ ?_)
   | (with_reducible refine LeO.bind ?_ (fun _ => ?_))
   | exact slices_Contains_int_int.mono _ _ _
   | exact LeO.none _
   | refine LeO.ite ?_ ?_
   | refine LeO.bind ?_ (fun _ => ?_)
set_option maxHeartbeats 8000000 in
set_option maxRecDepth 100000 in
theorem script_Faulty.calls (k : Nat) (Bl Bm Bn Bo Bp Bq Br Bs Bt Bu : Int) (B4 : Option Addr) (B5 : Nat) (B1 : List Int) (B6 : Option Addr) (B7 : Nat) (B0 : List Int) (B8 : Option Addr) (B9 : Nat) (B2 : List ByteArray) (Ba : Option Addr) (Bb : Nat) (B3 : List (S44)) (a1 : Int) (r : Bool) (w : World) (Bc : Kd.C (Kd.int .i64) w B4 B1.length B1) (Bd : B1.length ≤ B5) (Be : Kd.C (Kd.int .i64) w B6 B0.length B0) (Bf : B0.length ≤ B7) (Bg : Kd.C Kd.string w B8 B2.length B2) (Bh : B2.length ≤ B9) (Bi : Kd.C k44 w Ba B3.length B3) (Bj : B3.length ≤ Bb) (h : script_Faulty.f k Bl Bm Bn Bo Bp Bq Br Bs Bt Bu B1 B0 B2 B3 a1 = some r) :
  Calls Try.prog 20 #[.agg #[.int .i64 Bl, .int .i64 Bm, .int .i64 Bn, .int .i64 Bo, .int .i64 Bp, .int .i64 Bq, .int .i64 Br, .int .i64 Bs, .int .i64 Bt, .int .i64 Bu, .slice B4 B1.length B5, .slice B6 B0.length B7, .slice B8 B2.length B9, .slice Ba B3.length Bb], .int .i64 a1] w fun e w' => e = .returned (.bool r) ∧ Below w.heap.size w w' := by
 have D0 := am_ Bc
 have D1 := am_ Bd
 clear Bc Bd
 have Bv := am_ Be
 have Bw := am_ Bf
 clear Be Bf
 have D2 := am_ Bg
 have D3 := am_ Bh
 clear Bg Bh
 have D4 := am_ Bi
 have D5 := am_ Bj
 clear Bi Bj
 have HB := am_ (Below.refl w.heap.size w)
 have H := h
 unfold script_Faulty.f at H
 clear h
 replace H := Option.bind_eq_some_iff.mp H
 obtain ⟨D6, D9, H⟩ := H
 replace H : (some D6) = some r := H
 have A3 := am_ D9
 clear D9
 obtain rfl := Option.some.inj H
 go_enter Try.func20, Try.ntmps20
 go_wp2_with (first | ((with_reducible refine gate_load (t := 28) (x := .tmp 2) rfl ?_); refine lrg_ 28 (.tmp 2) Bx 28 (by exact Bk.out) Try.underlying28 ?_) | ((with_reducible refine gate_dst (N := 2) rfl ?_); refine bxe_ 2 28 #[.int .i64 Bl, .int .i64 Bm, .int .i64 Bn, .int .i64 Bo, .int .i64 Bp, .int .i64 Bq, .int .i64 Br, .int .i64 Bs, .int .i64 Bt, .int .i64 Bu, .slice B4 B1.length B5, .slice B6 B0.length B7, .slice B8 B2.length B9, .slice Ba B3.length Bb] ?_; intro Bx hg w4 hbox hb; have Bk := am_ (hbox); have By := gwk_ HB hg; have Bz := By; replace HB := bst_ HB hb; clear hb hbox hg; have D7 := cells_14 Bk.out; have D8 := frozen_14 Bk.out) | ((with_reducible refine gate_callee (f := 52) rfl ?_); refine gom_ (some 8) Try.func52 (slices_Contains_int_int.calls k _ _ B0 a1 _ _ (Kd.C_below Bv.out HB.out) Bw.out A3.out) ?_; rintro e w' ⟨rfl, ⟨nd, rfl⟩⟩; refine ⟨_, rfl, ?_⟩))
 go_ret
 exact ⟨by first | rfl | (simp [*] <;> rfl), by repeat (first | (with_reducible first | exact HB.out | apply ba_ | apply bn_ | apply bd_ | refine bs_ ?_ Bz.out) | exact HB.out)⟩
end Go.Proofs.Ythdoghhmooodjaa.Gn
namespace Go.Proofs.Ythdoghhmooodjaa.Gn
open Go.RowKit Go.Proofs.YthdoghhmooodjaaW.PrintWords Go.Proofs.YthdoghhmooodjaaW.PrintLast Go.Proofs.YthdoghhmooodjaaW.PrintMore
attribute [local go_sem] max2_int min2_int max_two min_two max_three min_three max_four min_four   -- for this text's walks alone
set_option linter.unusedVariables false
set_option linter.unusedSimpArgs false
def script_Honest.l0 : Nat → List Int → Int → Int → Int → Int → Int → Int → Int → Int → Int → Int → Int → Int → List Int → List Int → List ByteArray → List (S44) → Option (List Int)
 | 0, _, _, _, _, _, _, _, _, _, _, _, _, _, _, _, _, _ => none
 | k + 1, x3, x7, x8, B0, B1, B2, B3, B4, B5, B6, B7, B8, B9, Ba, Bb, Bc, Bd => if x8 < x7 then ((script_Faulty.f k B0 B1 B2 B3 B4 B5 B6 B7 B8 B9 Ba Bb Bc Bd x8).bind fun Be => (if Be = true then (script_Honest.l0 k x3 x7 (wrap64 (x8 + 1)) B0 B1 B2 B3 B4 B5 B6 B7 B8 B9 Ba Bb Bc Bd) else (if x3.length < 17592186044416 then (script_Honest.l0 k (x3 ++ [x8]) x7 (wrap64 (x8 + 1)) B0 B1 B2 B3 B4 B5 B6 B7 B8 B9 Ba Bb Bc Bd) else (none)))) else (some x3)
def script_Honest.f (k : Nat) (B1 B2 B3 B4 B5 B6 B7 B8 B9 Ba : Int) (B0 Bb : List Int) (Bc : List ByteArray) (Bd : List (S44)) : Option (List Int) := (script_nodes.f k B1 B2 B3 B4 B5 B6 B7 B8 B9 Ba B0).bind fun Be => (script_Honest.l0 k ([] : List Int) Be 0 B1 B2 B3 B4 B5 B6 B7 B8 B9 Ba B0 Bb Bc Bd)
theorem script_Honest.mono_l : ∀ k, (∀ y0 y1 y2 y3 y4 y5 y6 y7 y8 y9 B0 B1 B2 B3 B4 B5 B6, LeO (script_Honest.l0 k y0 y1 y2 y3 y4 y5 y6 y7 y8 y9 B0 B1 B2 B3 B4 B5 B6) (script_Honest.l0 (k + 1) y0 y1 y2 y3 y4 y5 y6 y7 y8 y9 B0 B1 B2 B3 B4 B5 B6))
 | 0 => fun _ _ _ _ _ _ _ _ _ _ _ _ _ _ _ _ _ r h => by simp [script_Honest.l0] at h
 | k + 1 => by
  have B7 := script_Honest.mono_l k
  ·intro y0 y1 y2 y3 y4 y5 y6 y7 y8 y9 B0 B1 B2 B3 B4 B5 B6
   unfold script_Honest.l0
   repeat' first
   | (with_reducible exact B7 _ _ _ _ _ _ _ _ _ _ _ _ _ _ _ _ _)
   | (with_reducible exact script_Faulty.mono _ _ _ _ _ _ _ _ _ _ _ _ _ _ _ _)
   | (with_reducible exact script_nodes.mono _ _ _ _ _ _ _ _ _ _ _ _)
   | (with_reducible exact LeO.refl _)
   | (with_reducible exact LeO.none _)
   | (with_reducible refine LeO.ite ?_ ?_)
   | (with_reducible refine LeO.bind ?_ (fun _ => ?_))
   | exact B7 _ _ _ _ _ _ _ _ _ _ _ _ _ _ _ _ _
   | exact script_Faulty.mono _ _ _ _ _ _ _ _ _ _ _ _ _ _ _ _
   | exact script_nodes.mono _ _ _ _ _ _ _ _ _ _ _ _
   | exact LeO.none _
   | refine LeO.ite ?_ ?_
   | refine LeO.bind ?_ (fun _ => ?_)
theorem script_Honest.mono : ∀ a0 a1 a2 a3 a4 a5 a6 a7 a8 a9 B0 B1 B2 B3 k, LeO (script_Honest.f k a0 a1 a2 a3 a4 a5 a6 a7 a8 a9 B0 B1 B2 B3) (script_Honest.f (k + 1) a0 a1 a2 a3 a4 a5 a6 a7 a8 a9 B0 B1 B2 B3) := by
 intro a0 a1 a2 a3 a4 a5 a6 a7 a8 a9 B0 B1 B2 B3 k
 have B4 := script_Honest.mono_l k
 unfold script_Honest.f
 repeat' first
   | (with_reducible exact B4 _ _ _ _ _ _ _ _ _ _ _ _ _ _ _ _ _)
   | (with_reducible exact script_Faulty.mono _ _ _ _ _ _ _ _ _ _ _ _ _ _ _ _)
   | (with_reducible exact script_nodes.mono _ _ _ _ _ _ _ _ _ _ _ _)
   | (with_reducible exact LeO.refl _)
   | (with_reducible exact LeO.none _)
   | (with_reducible refine LeO.ite ?_ ?_)
   | (with_reducible refine LeO.bind ?_ (fun _ => ?_))
   | exact B4 _ _ _ _ _ _ _ _ _ _ _ _ _ _ _ _ _
   | exact script_Faulty.mono _ _ _ _ _ _ _ _ _ _ _ _ _ _ _ _
   | exact script_nodes.mono _ _ _ _ _ _ _ _ _ _ _ _
   | exact LeO.none _
   | refine LeO.ite ?_ ?_
   | refine LeO.bind ?_ (fun _ => ?_)
set_option maxHeartbeats 8000000 in
set_option maxRecDepth 100000 in
theorem script_Honest.calls (k : Nat) (B6 B7 B8 B9 Ba Bb Bc Bd Be Bf : Int) (Bh : Option Addr) (Bi : Nat) (B1 : List Int) (Bj : Option Addr) (Bk : Nat) (B2 : List Int) (Bl : Option Addr) (Bm : Nat) (B3 : List ByteArray) (Bn : Option Addr) (Bo : Nat) (B4 : List (S44)) (r : List Int) (w : World) (Bu : Kd.C (Kd.int .i64) w Bh B1.length B1) (Bv : B1.length ≤ Bi) (Bw : Kd.C (Kd.int .i64) w Bj B2.length B2) (Bx : B2.length ≤ Bk) (By : Kd.C Kd.string w Bl B3.length B3) (Bz : B3.length ≤ Bm) (D0 : Kd.C k44 w Bn B4.length B4) (D1 : B4.length ≤ Bo) (h : script_Honest.f k B6 B7 B8 B9 Ba Bb Bc Bd Be Bf B1 B2 B3 B4 = some r) :
  Calls Try.prog 23 #[.agg #[.int .i64 B6, .int .i64 B7, .int .i64 B8, .int .i64 B9, .int .i64 Ba, .int .i64 Bb, .int .i64 Bc, .int .i64 Bd, .int .i64 Be, .int .i64 Bf, .slice Bh B1.length Bi, .slice Bj B2.length Bk, .slice Bl B3.length Bm, .slice Bn B4.length Bo]] w fun e w' => ∃ Dk : Value, e = .returned (Dk) ∧ Kd.R (Kd.int .i64) 3 w' w.heap.size (fun _ => True) Dk r ∧ Below w.heap.size w w' := by
 have Dn := Try.underlying24
 have Br := am_ Bu
 have Bs := am_ Bv
 clear Bu Bv
 have D2 := am_ Bw
 have D3 := am_ Bx
 clear Bw Bx
 have D4 := am_ By
 have D5 := am_ Bz
 clear By Bz
 have D6 := am_ D0
 have D7 := am_ D1
 clear D0 D1
 have HB := am_ (Below.refl w.heap.size w)
 have H := h
 unfold script_Honest.f at H
 clear h
 obtain ⟨D8, A2, H⟩ := bes_ H
 try dsimp only at H
 have H' := am_ H
 clear H
 go_enter Try.func23, Try.ntmps23
 go_wp2_with (first | ((with_reducible refine gate_load (t := 28) (x := .tmp 1) rfl ?_); refine lrg_ 28 (.tmp 1) Bp 28 (by exact B0.out) Try.underlying28 ?_) | ((with_reducible refine gate_dst (N := 1) rfl ?_); refine bxe_ 1 28 #[.int .i64 B6, .int .i64 B7, .int .i64 B8, .int .i64 B9, .int .i64 Ba, .int .i64 Bb, .int .i64 Bc, .int .i64 Bd, .int .i64 Be, .int .i64 Bf, .slice Bh B1.length Bi, .slice Bj B2.length Bk, .slice Bl B3.length Bm, .slice Bn B4.length Bo] ?_; intro Bp hg w3 hbox hb; have B0 := am_ (hbox); have D9 := gwk_ HB hg; have Bq := D9; replace HB := bst_ HB hb; clear hb hbox hg; have Df := cells_14 B0.out; have Dg := frozen_14 B0.out) | ((with_reducible refine gate_callee (f := 49) rfl ?_); refine gom_ (some 7) Try.func49 (script_nodes.calls k B6 B7 B8 B9 Ba Bb Bc Bd Be Bf _ _ B1 _ _ (Kd.C_below Br.out HB.out) Bs.out A2.out) ?_; rintro e w5 ⟨rfl, hb⟩; refine ⟨_, rfl, ?_⟩; replace B0 := bkb_ B0 hb; replace HB := bst_ HB hb; (try clear hb)))
 go_loopg [3, 8] k (fun kq v3 v8 w' => ∃ (Bt : List Int) (B5 : Int), v8 = .int .i64 B5 ∧ Aside0 (script_Honest.l0 kq Bt D8 B5 B6 B7 B8 B9 Ba Bb Bc Bd Be Bf B1 B2 B3 B4 = some r) ∧ Aside0 (kq ≤ k) ∧ Aside0 (Kd.R (Kd.int .i64) 3 w' w.heap.size (fun _ => True) v3 Bt) ∧ Aside0 (w'.heap[Bp]? = some (.cells #[.int .i64 B6, .int .i64 B7, .int .i64 B8, .int .i64 B9, .int .i64 Ba, .int .i64 Bb, .int .i64 Bc, .int .i64 Bd, .int .i64 Be, .int .i64 Bf, (.slice Bh B1.length Bi), (.slice Bj B2.length Bk), (.slice Bl B3.length Bm), (.slice Bn B4.length Bo)] 28 (0, 0))) ∧ Aside0 (Below w.heap.size w w'))
 case atStart => exact ⟨(([] : List Int)), (0), (by first | rfl | (simp; done) | (simp [*]; done)), H', ⟨Nat.le_refl _⟩, ⟨by first | exact Kd.R_nil _ _ _ _ _ | exact Kd.N_nil _ _ _ _ _ | exact Kd.V_nil _ _ _ _ _ | exact Kd.Q_nil _ _ _ _ _ | exact Kd.S_nil _ _ _ _ _⟩, ⟨by (with_reducible repeat (first | apply kn_ | apply kd_ | apply ka_)); exact B0.out⟩, ⟨by repeat (first | (with_reducible first | exact HB.out | apply ba_ | apply bn_ | apply bd_ | refine bs_ ?_ Bq.out) | exact HB.out)⟩⟩
 case round =>
  clear H'
  try clear c2
  try clear p2
  try clear c4
  try clear hcz4_0 hcz4_1 hcz4_2 hcz4_3 hcz4_4 hcz4_5 hcz4_6 hcz4_7 hcz4_8 hcz4_9 hcz4_10 hcz4_11 hcz4_12 hcz4_13
  try clear hfz4_0 hfz4_1 hfz4_2 hfz4_3 hfz4_4 hfz4_5 hfz4_6 hfz4_7 hfz4_8 hfz4_9 hfz4_10 hfz4_11 hfz4_12 hfz4_13
  obtain ⟨Bt, B5, rfl, HA, Dd, Bg, B0, HB⟩ := hrel
  cases gk with
  | zero => exact absurd HA.out (by simp [script_Honest.l0])
  | succ k1 =>
   have H := HA.out
   clear HA
   simp only [script_Honest.l0] at H
   by_cases c6 : B5 < D8
   ·rw [if_pos c6] at H
    have Dh : decide (B5 < D8) = true := decide_eq_true c6
    clear c6
    obtain ⟨Di, A7, H⟩ := bes_ H
    try dsimp only at H
    by_cases c8 : Di = true
    ·subst c8
     rw [if_pos rfl] at H
     have H' := am_ H
     clear H
     have Do := cells_14 B0.out
     have Dp := frozen_14 B0.out
     go_wp2_with (first | ((with_reducible refine gate_load (t := 28) (x := .tmp 1) rfl ?_); refine lrg_ 28 (.tmp 1) Bp 28 (by exact B0.out) Try.underlying28 ?_) | ((with_reducible refine gate_callee (f := 20) rfl ?_); refine gom_ (some 13) Try.func20 (script_Faulty.calls k1 B6 B7 B8 B9 Ba Bb Bc Bd Be Bf _ _ B1 _ _ B2 _ _ B3 _ _ B4 B5 true _ (Kd.C_below Br.out HB.out) Bs.out (Kd.C_below D2.out HB.out) D3.out (Kd.C_below D4.out HB.out) D5.out (Kd.C_below D6.out HB.out) D7.out A7.out) ?_; rintro e w10 ⟨rfl, hb⟩; refine ⟨_, rfl, ?_⟩; replace Bg := am_ (Kd.R_below Bg.out hb); replace B0 := bkb_ B0 hb; replace HB := bst_ HB hb; (try clear hb)))
     go_roundg k1
     case measure => have := Dd.out; omega
     case rel => exact ⟨(Bt), (wrap64 (B5 + 1)), (by first | rfl | (simp; done) | (simp [*]; done)), H', ⟨by have := Dd.out; omega⟩, ⟨by (with_reducible repeat (first | apply Kd.R_alloc | apply Kd.R_drewN | apply Kd.R_drew)); exact Bg.out⟩, ⟨by (with_reducible repeat (first | apply kn_ | apply kd_ | apply ka_)); exact B0.out⟩, ⟨by repeat (first | (with_reducible first | exact HB.out | apply ba_ | apply bn_ | apply bd_ | refine bs_ ?_ Bq.out) | exact HB.out)⟩⟩
    ·replace c8 := Bool.eq_false_iff.mpr c8
     subst c8
     rw [if_neg (show ¬ (false = true) by decide)] at H
     by_cases De : Bt.length < 17592186044416
     ·rw [if_pos De] at H
      have Da := am_ De
      clear De
      obtain ⟨y404, hy404⟩ : ∃ y_ : List Int, y_ = (Bt ++ [B5]) := ⟨_, rfl⟩
      replace H : (script_Honest.l0 k1 y404 D8 (wrap64 (B5 + 1)) B6 B7 B8 B9 Ba Bb Bc Bd Be Bf B1 B2 B3 B4) = some r := by first | (rw [hy404]; with_reducible exact H) | (have Dj := (Option.bind_some _ _).symm.trans H; rw [hy404]; with_reducible exact Dj) | (have Dj := (Option.bind_some _ _).symm.trans H; with_reducible exact Dj) | with_reducible exact H | (rw [hy404]; exact H) | exact H
      have Db := am_ hy404
      clear hy404
      have H' := am_ H
      clear H
      have Dl := cells_14 B0.out
      have Dm := frozen_14 B0.out
      go_wp2_with (first | ((with_reducible refine gate_load (t := 28) (x := .tmp 1) rfl ?_); refine lrg_ 28 (.tmp 1) Bp 28 (by exact B0.out) Try.underlying28 ?_) | ((with_reducible refine gate_callee (f := 20) rfl ?_); refine gom_ (some 13) Try.func20 (script_Faulty.calls k1 B6 B7 B8 B9 Ba Bb Bc Bd Be Bf _ _ B1 _ _ B2 _ _ B3 _ _ B4 B5 false _ (Kd.C_below Br.out HB.out) Bs.out (Kd.C_below D2.out HB.out) D3.out (Kd.C_below D4.out HB.out) D5.out (Kd.C_below D6.out HB.out) D7.out A7.out) ?_; rintro e w13 ⟨rfl, hb⟩; refine ⟨_, rfl, ?_⟩; replace Bg := am_ (Kd.R_below Bg.out hb); replace B0 := bkb_ B0 hb; replace HB := bst_ HB hb; (try clear hb)) | ((with_reducible refine gate_builtin (b := .append) (xs := #[.tmp 15, .tmp 17]) rfl ?_); at_builtin; refine Kd.R_append (Kd.int .i64) (w0 := w) w.heap.size rfl (.tmp 15) (.tmp 17) 22 3 (.int .i64 0) 8 rfl Try.underlying22 info3 rfl (by decide) (by omega) u3 Bt B5 [.int .i64 B5] (fun _ => True) (fun _ => False) rfl rfl ?aP (fun _ hk => hk.elim) ?aF ?aO ?aB ?aS ?aL ?_; (case aP => exact rfl); (case aB => exact (by repeat (first | (with_reducible first | exact HB.out | apply ba_ | apply bn_ | apply bd_ | refine bs_ ?_ Bq.out) | exact HB.out))); (case aF => exact (fun _ _ => trivial)); (case aO => exact (by (with_reducible repeat (first | apply Kd.R_alloc | apply Kd.R_drewN | apply Kd.R_drew)); exact Bg.out)); (case aS => exact (below_size HB.out)); (case aL => have := Da.out; omega); intro v405 w14 ho hb hg hat; rw [← Db.out] at ho; replace B0 := am_ (blk_grown (g := Bp) (o := .cells #[.int .i64 B6, .int .i64 B7, .int .i64 B8, .int .i64 B9, .int .i64 Ba, .int .i64 Bb, .int .i64 Bc, .int .i64 Bd, .int .i64 Be, .int .i64 Bf, .slice Bh B1.length Bi, .slice Bj B2.length Bk, .slice Bl B3.length Bm, .slice Bn B4.length Bo] 28 (0, 0)) (by (with_reducible repeat (first | apply kn_ | apply kd_ | apply ka_)); exact B0.out) hg (Kd.R_ne Bg.out B0.out (by decide))); replace HB := am_ (hb); have Dc := am_ (ho); clear Bg; clear ho hb hg hat))
      go_roundg k1
      case measure => have := Dd.out; omega
      case rel => exact ⟨(y404), (wrap64 (B5 + 1)), (by first | rfl | (simp; done) | (simp [*]; done)), H', ⟨by have := Dd.out; omega⟩, ⟨by (with_reducible repeat (first | apply Kd.R_alloc | apply Kd.R_drewN | apply Kd.R_drew)); exact Dc.out⟩, ⟨by (with_reducible repeat (first | apply kn_ | apply kd_ | apply ka_)); exact B0.out⟩, ⟨by repeat (first | (with_reducible first | exact HB.out | apply ba_ | apply bn_ | apply bd_ | refine bs_ ?_ Bq.out) | exact HB.out)⟩⟩
     ·rw [if_neg De] at H
      exact absurd H (by simp)
   ·rw [if_neg c6] at H
    have Dh : decide (B5 < D8) = false := decide_eq_false c6
    clear c6
    obtain rfl := Option.some.inj H
    go_wp2
    go_ret
    exact ⟨_, by first | rfl | (simp [*] <;> rfl), by (with_reducible repeat (first | apply Kd.R_alloc | apply Kd.R_drewN | apply Kd.R_drew)); exact Bg.out, by repeat (first | (with_reducible first | exact HB.out | apply ba_ | apply bn_ | apply bd_ | refine bs_ ?_ Bq.out) | exact HB.out)⟩
end Go.Proofs.Ythdoghhmooodjaa.Gn
