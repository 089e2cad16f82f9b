import Derived.Test.YtdnccjlfongdeaaZRoundOnlyGn0
import Derived.Test.YtdnccjlfongdeaaZRoundOnlyGn2
import Derived.Test.YtdnccjlfongdeaaZRoundOnlyGn6
namespace Go.Proofs.Ytdnccjlfongdeaa.Gn
open Go.RowKit Go.Proofs.YtdnccjlfongdeaaW.PrintWords Go.Proofs.YtdnccjlfongdeaaW.PrintLast Go.Proofs.YtdnccjlfongdeaaW.PrintMore
attribute [local go_sem] max2_int min2_int max_two min_two max_three min_three max_four min_four   -- for this text's walks alone
set_option linter.unusedVariables false
set_option linter.unusedSimpArgs false
def round_machine_lies.f (k : Nat) (B3 B4 B5 B6 B7 B8 B9 Ba Bb Bc : Int) (B2 B0 : List Int) (a1 : Int) : Option (Bool) := (slices_Contains_int_int.f k B0 a1).bind fun B1 => (some B1)
theorem round_machine_lies.mono : ∀ a0 a1 a2 a3 a4 a5 a6 a7 a8 a9 B0 B1 B2 k, LeO (round_machine_lies.f k a0 a1 a2 a3 a4 a5 a6 a7 a8 a9 B0 B1 B2) (round_machine_lies.f (k + 1) a0 a1 a2 a3 a4 a5 a6 a7 a8 a9 B0 B1 B2) := by
 intro a0 a1 a2 a3 a4 a5 a6 a7 a8 a9 B0 B1 B2 k
 unfold round_machine_lies.f
 repeat' first
   | (with_reducible exact slices_Contains_int_int.mono _ _ _)
   | (with_reducible exact LeO.refl _)
   | (with_reducible exact LeO.none _)
   | (with_reducible refine LeO.ite ?_ ?_)
   | (with_reducible refine LeO.bind ?_ (fun _ => ?_))
   | exact slices_Contains_int_int.mono _ _ _
   | exact LeO.none _
   | refine LeO.ite ?_ ?_
   | refine LeO.bind ?_ (fun _ => ?_)
set_option maxHeartbeats 8000000 in
set_option maxRecDepth 100000 in
theorem round_machine_lies.calls (k : Nat) (Bb Bc Bd Be Bf Bg Bh Bi Bj Bk : Int) (B2 : Option Addr) (B3 : Nat) (B1 : List Int) (B4 : Option Addr) (B5 : Nat) (B0 : List Int) (a1 : Int) (r : Bool) (w : World) (B6 : Kd.C (Kd.int .i64) w B2 B1.length B1) (B7 : B1.length ≤ B3) (B8 : Kd.C (Kd.int .i64) w B4 B0.length B0) (B9 : B0.length ≤ B5) (h : round_machine_lies.f k Bb Bc Bd Be Bf Bg Bh Bi Bj Bk B1 B0 a1 = some r) :
  Calls Try.prog 25 #[.agg #[.int .i64 Bb, .int .i64 Bc, .int .i64 Bd, .int .i64 Be, .int .i64 Bf, .int .i64 Bg, .int .i64 Bh, .int .i64 Bi, .int .i64 Bj, .int .i64 Bk, .slice B2 B1.length B3, .slice B4 B0.length B5], .int .i64 a1] w fun e w' => e = .returned (.bool r) ∧ Below w.heap.size w w' := by
 have Bq := am_ B6
 have Br := am_ B7
 clear B6 B7
 have Bl := am_ B8
 have Bm := am_ B9
 clear B8 B9
 have HB := am_ (Below.refl w.heap.size w)
 have H := h
 unfold round_machine_lies.f at H
 clear h
 replace H := Option.bind_eq_some_iff.mp H
 obtain ⟨Bs, Bv, H⟩ := H
 replace H : (some Bs) = some r := H
 have A3 := am_ Bv
 clear Bv
 obtain rfl := Option.some.inj H
 go_enter Try.func25, Try.ntmps25
 go_wp2_with (first | ((with_reducible refine gate_load (t := 47) (x := .tmp 2) rfl ?_); refine lrg_ 47 (.tmp 2) Bn 47 (by exact Ba.out) Try.underlying47 ?_) | ((with_reducible refine gate_dst (N := 2) rfl ?_); refine bxe_ 2 47 #[.int .i64 Bb, .int .i64 Bc, .int .i64 Bd, .int .i64 Be, .int .i64 Bf, .int .i64 Bg, .int .i64 Bh, .int .i64 Bi, .int .i64 Bj, .int .i64 Bk, .slice B2 B1.length B3, .slice B4 B0.length B5] ?_; intro Bn hg w4 hbox hb; have Ba := am_ (hbox); have Bo := gwk_ HB hg; have Bp := Bo; replace HB := bst_ HB hb; clear hb hbox hg; have Bt := cells_12 Ba.out; have Bu := frozen_12 Ba.out) | ((with_reducible refine gate_callee (f := 49) rfl ?_); refine gom_ (some 8) Try.func49 (slices_Contains_int_int.calls k _ _ B0 a1 _ _ (Kd.C_below Bl.out HB.out) Bm.out A3.out) ?_; rintro e w' ⟨rfl, ⟨nd, rfl⟩⟩; refine ⟨_, rfl, ?_⟩))
 go_ret
 exact ⟨by first | rfl | (simp [*] <;> rfl), by repeat (first | (with_reducible first | exact HB.out | apply ba_ | apply bn_ | apply bd_ | refine bs_ ?_ Bp.out) | exact HB.out)⟩
def round_machine_honest.l0 : Nat → List Int → Int → Int → Int → Int → Int → Int → Int → Int → Int → Int → Int → Int → List Int → List Int → Option (List Int)
 | 0, _, _, _, _, _, _, _, _, _, _, _, _, _, _, _ => none
 | k + 1, x3, x7, x8, B0, B1, B2, B3, B4, B5, B6, B7, B8, B9, Ba, Bb => if x8 < x7 then ((round_machine_lies.f k B0 B1 B2 B3 B4 B5 B6 B7 B8 B9 Ba Bb x8).bind fun Bc => (if Bc = true then (round_machine_honest.l0 k x3 x7 (wrap64 (x8 + 1)) B0 B1 B2 B3 B4 B5 B6 B7 B8 B9 Ba Bb) else (if x3.length < 17592186044416 then (round_machine_honest.l0 k (x3 ++ [x8]) x7 (wrap64 (x8 + 1)) B0 B1 B2 B3 B4 B5 B6 B7 B8 B9 Ba Bb) else (none)))) else (some x3)
def round_machine_honest.f (k : Nat) (B0 B3 B4 B5 B6 B7 B8 B9 Ba Bb : Int) (B1 B2 : List Int) : Option (List Int) := round_machine_honest.l0 k ([] : List Int) B0 0 B0 B3 B4 B5 B6 B7 B8 B9 Ba Bb B1 B2
theorem round_machine_honest.mono_l : ∀ k, (∀ y0 y1 y2 y3 y4 y5 y6 y7 y8 y9 B0 B1 B2 B3 B4, LeO (round_machine_honest.l0 k y0 y1 y2 y3 y4 y5 y6 y7 y8 y9 B0 B1 B2 B3 B4) (round_machine_honest.l0 (k + 1) y0 y1 y2 y3 y4 y5 y6 y7 y8 y9 B0 B1 B2 B3 B4))
 | 0 => fun _ _ _ _ _ _ _ _ _ _ _ _ _ _ _ r h => by simp [round_machine_honest.l0] at h
 | k + 1 => by
  have B5 := round_machine_honest.mono_l k
  ·intro y0 y1 y2 y3 y4 y5 y6 y7 y8 y9 B0 B1 B2 B3 B4
   unfold round_machine_honest.l0
   repeat' first
   | (with_reducible exact B5 _ _ _ _ _ _ _ _ _ _ _ _ _ _ _)
   | (with_reducible exact round_machine_lies.mono _ _ _ _ _ _ _ _ _ _ _ _ _ _)
   | (with_reducible exact LeO.refl _)
   | (with_reducible exact LeO.none _)
   | (with_reducible refine LeO.ite ?_ ?_)
   | (with_reducible refine LeO.bind ?_ (fun _ => ?_))
   | exact B5 _ _ _ _ _ _ _ _ _ _ _ _ _ _ _
   | exact round_machine_lies.mono _ _ _ _ _ _ _ _ _ _ _ _ _ _
   | exact LeO.none _
   | refine LeO.ite ?_ ?_
   | refine LeO.bind ?_ (fun _ => ?_)
theorem round_machine_honest.mono : ∀ a0 a1 a2 a3 a4 a5 a6 a7 a8 a9 B0 B1 k, LeO (round_machine_honest.f k a0 a1 a2 a3 a4 a5 a6 a7 a8 a9 B0 B1) (round_machine_honest.f (k + 1) a0 a1 a2 a3 a4 a5 a6 a7 a8 a9 B0 B1) := by
 intro a0 a1 a2 a3 a4 a5 a6 a7 a8 a9 B0 B1 k
 have B2 := round_machine_honest.mono_l k
 unfold round_machine_honest.f
 repeat' first
   | (with_reducible exact B2 _ _ _ _ _ _ _ _ _ _ _ _ _ _ _)
   | (with_reducible exact round_machine_lies.mono _ _ _ _ _ _ _ _ _ _ _ _ _ _)
   | (with_reducible exact LeO.refl _)
   | (with_reducible exact LeO.none _)
   | (with_reducible refine LeO.ite ?_ ?_)
   | (with_reducible refine LeO.bind ?_ (fun _ => ?_))
   | exact B2 _ _ _ _ _ _ _ _ _ _ _ _ _ _ _
   | exact round_machine_lies.mono _ _ _ _ _ _ _ _ _ _ _ _ _ _
   | exact LeO.none _
   | refine LeO.ite ?_ ?_
   | refine LeO.bind ?_ (fun _ => ?_)
set_option maxHeartbeats 8000000 in
set_option maxRecDepth 100000 in
theorem round_machine_honest.calls (k : Nat) (B3 B5 B6 B7 B8 B9 Ba Bb Bc Bd : Int) (Bf : Option Addr) (Bg : Nat) (B1 : List Int) (Bh : Option Addr) (Bi : Nat) (B2 r : List Int) (w : World) (Bm : Kd.C (Kd.int .i64) w Bf B1.length B1) (Bn : B1.length ≤ Bg) (Bo : Kd.C (Kd.int .i64) w Bh B2.length B2) (Bp : B2.length ≤ Bi) (h : round_machine_honest.f k B3 B5 B6 B7 B8 B9 Ba Bb Bc Bd B1 B2 = some r) :
  Calls Try.prog 21 #[.agg #[.int .i64 B3, .int .i64 B5, .int .i64 B6, .int .i64 B7, .int .i64 B8, .int .i64 B9, .int .i64 Ba, .int .i64 Bb, .int .i64 Bc, .int .i64 Bd, .slice Bf B1.length Bg, .slice Bh B2.length Bi]] w fun e w' => ∃ D4 : Value, e = .returned (D4) ∧ Kd.R (Kd.int .i64) 3 w' w.heap.size (fun _ => True) D4 r ∧ Below w.heap.size w w' := by
 have Bq := am_ Bm
 have Br := am_ Bn
 clear Bm Bn
 have Bs := am_ Bo
 have Bt := am_ Bp
 clear Bo Bp
 have HB := am_ (Below.refl w.heap.size w)
 have H := h
 unfold round_machine_honest.f at H
 clear h
 have H' := am_ H
 clear H
 go_enter Try.func21, Try.ntmps21
 go_wp2_with (first | ((with_reducible refine gate_load (t := 47) (x := .tmp 1) rfl ?_); refine lrg_ 47 (.tmp 1) Bj 47 (by exact B0.out) Try.underlying47 ?_) | ((with_reducible refine gate_dst (N := 1) rfl ?_); refine bxe_ 1 47 #[.int .i64 B3, .int .i64 B5, .int .i64 B6, .int .i64 B7, .int .i64 B8, .int .i64 B9, .int .i64 Ba, .int .i64 Bb, .int .i64 Bc, .int .i64 Bd, .slice Bf B1.length Bg, .slice Bh B2.length Bi] ?_; intro Bj hg w2 hbox hb; have B0 := am_ (hbox); have Bu := gwk_ HB hg; have Bk := Bu; replace HB := bst_ HB hb; clear hb hbox hg; have By := cells_12 B0.out; have Bz := frozen_12 B0.out))
 go_loopg [3, 8] k (fun kq v3 v8 w' => ∃ (Bl : List Int) (B4 : Int), v8 = .int .i64 B4 ∧ Aside0 (round_machine_honest.l0 kq Bl B3 B4 B3 B5 B6 B7 B8 B9 Ba Bb Bc Bd B1 B2 = some r) ∧ Aside0 (kq ≤ k) ∧ Aside0 (Kd.R (Kd.int .i64) 3 w' w.heap.size (fun _ => True) v3 Bl) ∧ Aside0 (w'.heap[Bj]? = some (.cells #[.int .i64 B3, .int .i64 B5, .int .i64 B6, .int .i64 B7, .int .i64 B8, .int .i64 B9, .int .i64 Ba, .int .i64 Bb, .int .i64 Bc, .int .i64 Bd, (.slice Bf B1.length Bg), (.slice Bh B2.length Bi)] 47 (0, 0))) ∧ Aside0 (Below w.heap.size w w'))
 case atStart => exact ⟨(([] : List Int)), (0), (by first | rfl | (simp; done) | (simp [*]; done)), H', ⟨Nat.le_refl _⟩, ⟨by first | exact Kd.R_nil _ _ _ _ _ | exact Kd.N_nil _ _ _ _ _ | exact Kd.V_nil _ _ _ _ _ | exact Kd.Q_nil _ _ _ _ _ | exact Kd.S_nil _ _ _ _ _⟩, ⟨by (with_reducible repeat (first | apply kn_ | apply kd_ | apply ka_)); exact B0.out⟩, ⟨by repeat (first | (with_reducible first | exact HB.out | apply ba_ | apply bn_ | apply bd_ | refine bs_ ?_ Bk.out) | exact HB.out)⟩⟩
 case round =>
  clear H'
  try clear c2
  try clear p2
  try clear hcz3_0 hcz3_1 hcz3_2 hcz3_3 hcz3_4 hcz3_5 hcz3_6 hcz3_7 hcz3_8 hcz3_9 hcz3_10 hcz3_11
  try clear hfz3_0 hfz3_1 hfz3_2 hfz3_3 hfz3_4 hfz3_5 hfz3_6 hfz3_7 hfz3_8 hfz3_9 hfz3_10 hfz3_11
  obtain ⟨Bl, B4, rfl, HA, Bx, Be, B0, HB⟩ := hrel
  cases gk with
  | zero => exact absurd HA.out (by simp [round_machine_honest.l0])
  | succ k1 =>
   have H := HA.out
   clear HA
   simp only [round_machine_honest.l0] at H
   by_cases c4 : B4 < B3
   ·rw [if_pos c4] at H
    have D0 : decide (B4 < B3) = true := decide_eq_true c4
    clear c4
    obtain ⟨D1, A5, H⟩ := bes_ H
    try dsimp only at H
    by_cases c6 : D1 = true
    ·subst c6
     rw [if_pos rfl] at H
     have H' := am_ H
     clear H
     have D7 := cells_12 B0.out
     have D8 := frozen_12 B0.out
     go_wp2_with (first | ((with_reducible refine gate_load (t := 47) (x := .tmp 1) rfl ?_); refine lrg_ 47 (.tmp 1) Bj 47 (by exact B0.out) Try.underlying47 ?_) | ((with_reducible refine gate_callee (f := 25) rfl ?_); refine gom_ (some 13) Try.func25 (round_machine_lies.calls k1 B3 B5 B6 B7 B8 B9 Ba Bb Bc Bd _ _ B1 _ _ B2 B4 _ _ (Kd.C_below Bq.out HB.out) Br.out (Kd.C_below Bs.out HB.out) Bt.out A5.out) ?_; rintro e w8 ⟨rfl, hb⟩; refine ⟨_, rfl, ?_⟩; replace Be := am_ (Kd.R_below Be.out hb); replace B0 := bkb_ B0 hb; replace HB := bst_ HB hb; (try clear hb)))
     go_roundg k1
     case measure => have := Bx.out; omega
     case rel => exact ⟨(Bl), (wrap64 (B4 + 1)), (by first | rfl | (simp; done) | (simp [*]; done)), H', ⟨by have := Bx.out; omega⟩, ⟨by (with_reducible repeat (first | apply Kd.R_alloc | apply Kd.R_drewN | apply Kd.R_drew)); exact Be.out⟩, ⟨by (with_reducible repeat (first | apply kn_ | apply kd_ | apply ka_)); exact B0.out⟩, ⟨by repeat (first | (with_reducible first | exact HB.out | apply ba_ | apply bn_ | apply bd_ | refine bs_ ?_ Bk.out) | exact HB.out)⟩⟩
    ·replace c6 := Bool.eq_false_iff.mpr c6
     subst c6
     rw [if_neg (show ¬ (false = true) by decide)] at H
     by_cases c9 : Bl.length < 17592186044416
     ·rw [if_pos c9] at H
      have D2 := am_ c9
      clear c9
      obtain ⟨y403, hy403⟩ : ∃ y_ : List Int, y_ = (Bl ++ [B4]) := ⟨_, rfl⟩
      replace H : (round_machine_honest.l0 k1 y403 B3 (wrap64 (B4 + 1)) B3 B5 B6 B7 B8 B9 Ba Bb Bc Bd B1 B2) = some r := by first | (rw [hy403]; with_reducible exact H) | (have D3 := (Option.bind_some _ _).symm.trans H; rw [hy403]; with_reducible exact D3) | (have D3 := (Option.bind_some _ _).symm.trans H; with_reducible exact D3) | with_reducible exact H | (rw [hy403]; exact H) | exact H
      have Bv := am_ hy403
      clear hy403
      have H' := am_ H
      clear H
      have D5 := cells_12 B0.out
      have D6 := frozen_12 B0.out
      go_wp2_with (first | ((with_reducible refine gate_load (t := 47) (x := .tmp 1) rfl ?_); refine lrg_ 47 (.tmp 1) Bj 47 (by exact B0.out) Try.underlying47 ?_) | ((with_reducible refine gate_callee (f := 25) rfl ?_); refine gom_ (some 13) Try.func25 (round_machine_lies.calls k1 B3 B5 B6 B7 B8 B9 Ba Bb Bc Bd _ _ B1 _ _ B2 B4 _ _ (Kd.C_below Bq.out HB.out) Br.out (Kd.C_below Bs.out HB.out) Bt.out A5.out) ?_; rintro e w11 ⟨rfl, hb⟩; refine ⟨_, rfl, ?_⟩; replace Be := am_ (Kd.R_below Be.out hb); replace B0 := bkb_ B0 hb; replace HB := bst_ HB hb; (try clear hb)) | ((with_reducible refine gate_builtin (b := .append) (xs := #[.tmp 15, .tmp 17]) rfl ?_); at_builtin; refine Kd.R_append (Kd.int .i64) (w0 := w) w.heap.size rfl (.tmp 15) (.tmp 17) 22 3 (.int .i64 0) 8 rfl Try.underlying22 info3 rfl (by decide) (by omega) u3 Bl B4 [.int .i64 B4] (fun _ => True) (fun _ => False) rfl rfl ?aP (fun _ hk => hk.elim) ?aF ?aO ?aB ?aS ?aL ?_; (case aP => exact rfl); (case aB => exact (by repeat (first | (with_reducible first | exact HB.out | apply ba_ | apply bn_ | apply bd_ | refine bs_ ?_ Bk.out) | exact HB.out))); (case aF => exact (fun _ _ => trivial)); (case aO => exact (by (with_reducible repeat (first | apply Kd.R_alloc | apply Kd.R_drewN | apply Kd.R_drew)); exact Be.out)); (case aS => exact (below_size HB.out)); (case aL => have := D2.out; omega); intro v404 w12 ho hb hg hat; rw [← Bv.out] at ho; replace B0 := am_ (blk_grown (g := Bj) (o := .cells #[.int .i64 B3, .int .i64 B5, .int .i64 B6, .int .i64 B7, .int .i64 B8, .int .i64 B9, .int .i64 Ba, .int .i64 Bb, .int .i64 Bc, .int .i64 Bd, .slice Bf B1.length Bg, .slice Bh B2.length Bi] 47 (0, 0)) (by (with_reducible repeat (first | apply kn_ | apply kd_ | apply ka_)); exact B0.out) hg (Kd.R_ne Be.out B0.out (by decide))); replace HB := am_ (hb); have Bw := am_ (ho); clear Be; clear ho hb hg hat))
      go_roundg k1
      case measure => have := Bx.out; omega
      case rel => exact ⟨(y403), (wrap64 (B4 + 1)), (by first | rfl | (simp; done) | (simp [*]; done)), H', ⟨by have := Bx.out; omega⟩, ⟨by (with_reducible repeat (first | apply Kd.R_alloc | apply Kd.R_drewN | apply Kd.R_drew)); exact Bw.out⟩, ⟨by (with_reducible repeat (first | apply kn_ | apply kd_ | apply ka_)); exact B0.out⟩, ⟨by repeat (first | (with_reducible first | exact HB.out | apply ba_ | apply bn_ | apply bd_ | refine bs_ ?_ Bk.out) | exact HB.out)⟩⟩
     ·rw [if_neg c9] at H
      exact absurd H (by simp)
   ·rw [if_neg c4] at H
    have D0 : decide (B4 < B3) = false := decide_eq_false c4
    clear c4
    obtain rfl := Option.some.inj H
    go_wp2
    go_ret
    exact ⟨_, by first | rfl | (simp [*] <;> rfl), by (with_reducible repeat (first | apply Kd.R_alloc | apply Kd.R_drewN | apply Kd.R_drew)); exact Be.out, by repeat (first | (with_reducible first | exact HB.out | apply ba_ | apply bn_ | apply bd_ | refine bs_ ?_ Bk.out) | exact HB.out)⟩
def round_cut.f (a0 : ByteArray) : Option (ByteArray) := if 0 ≤ (mn (a0.size : Int) 16) then (if (mn (a0.size : Int) 16) ≤ (a0.size : Int) then (some (a0.extract 0 ((mn (a0.size : Int) 16) : Int).toNat)) else (none)) else (none)
set_option maxHeartbeats 8000000 in
set_option maxRecDepth 100000 in
theorem round_cut.calls (a0 r : ByteArray) (w : World) (h : round_cut.f a0 = some r) :
  Calls Try.prog 48 #[.string a0] w fun e w' => e = .returned (.string r) ∧ Below w.heap.size w w' := by
 have HB := am_ (Below.refl w.heap.size w)
 have H := h
 unfold round_cut.f at H
 clear h
 obtain ⟨ji2, hji2⟩ : ∃ j_ : Int, (mn (a0.size : Int) 16) = j_ := ⟨_, rfl⟩
 replace H : (if 0 ≤ (ji2) then (if (ji2) ≤ (a0.size : Int) then (some (a0.extract 0 ((ji2) : Int).toNat)) else (none)) else (none)) = some r := by first | (rw [hji2] at H; exact H) | (simp only [hji2] at H ⊢; exact H)
 (try (have B0 : ji2 ≤ 16 := by (rw [← hji2]; unfold mn; (repeat' split) <;> omega)))
 (try (have B1 : ji2 ≤ 64 := by omega))
 (try (have B2 : 0 ≤ ji2 := by (rw [← hji2]; unfold mn; (repeat' split) <;> omega)))
 (try (have B3 : 0 ≤ ji2 := by omega))
 have B4 : (if 16 < (a0.size : Int) then 16 else (a0.size : Int)) = ji2 := hji2
 by_cases c3 : 0 ≤ (ji2)
 ·rw [if_pos c3] at H
  have B5 := eq_true c3
  have B6 : decide (0 ≤ (ji2)) = true := decide_eq_true c3
  clear c3
  by_cases c4 : (ji2) ≤ (a0.size : Int)
  ·rw [if_pos c4] at H
   have B7 := eq_true c4
   have B8 : decide ((ji2) ≤ (a0.size : Int)) = true := decide_eq_true c4
   clear c4
   obtain rfl := Option.some.inj H
   go_enter Try.func48, Try.ntmps48
   go_wp2
   go_ret
   exact ⟨by first | rfl | (simp [errW_none, errW_some] <;> rfl) | (simp only [← hji2]; first | rfl | (simp [errW_none, errW_some] <;> rfl)) | (simp [*, errW_none, errW_some] <;> rfl), by repeat (first | (with_reducible first | exact HB.out | apply ba_ | apply bn_ | apply bd_) | exact HB.out)⟩
  ·rw [if_neg c4] at H
   exact absurd H (by simp)
 ·rw [if_neg c3] at H
  exact absurd H (by simp)
def round_machine_lines.l0 : Nat → List ByteArray → List ByteArray → List Int → Int → Int → Option (List ByteArray)
 | 0, _, _, _, _, _ => none
 | k + 1, x1, x5, B1, B2, B0 => if B0 < B2 then (if 0 ≤ B0 then (if B0 < (B1.length : Int) then (if (rd B1 B0) < (x1.length : Int) then (if 0 ≤ (rd B1 B0) then ((round_cut.f (rdOf ByteArray.empty x1 (rd B1 B0))).bind fun B3 => (if (rd B1 B0) < (x5.length : Int) then (round_machine_lines.l0 k x1 (x5.set ((rd B1 B0) : Int).toNat B3) B1 B2 (wrap64 (B0 + 1))) else (none))) else (none)) else (round_machine_lines.l0 k x1 x5 B1 B2 (wrap64 (B0 + 1)))) else (none)) else (none)) else (some x5)
def round_machine_lines.f (k : Nat) (B0 B4 B5 B6 B7 B8 B9 Ba Bb Bc : Int) (B1 B2 : List Int) (l1 : List ByteArray) : Option (List ByteArray) := if 0 ≤ B0 then (if (B0 : Int).toNat ≤ 17592186044416 then ((round_machine_honest.f k B0 B4 B5 B6 B7 B8 B9 Ba Bb Bc B1 B2).bind fun B3 => (round_machine_lines.l0 k l1 (List.replicate (B0 : Int).toNat (⟨#[]⟩ : ByteArray)) B3 (B3.length : Int) 0)) else (none)) else (none)
theorem round_machine_lines.mono_l : ∀ k, (∀ y0 y1 y2 y3 y4, LeO (round_machine_lines.l0 k y0 y1 y2 y3 y4) (round_machine_lines.l0 (k + 1) y0 y1 y2 y3 y4))
 | 0 => fun _ _ _ _ _ r h => by simp [round_machine_lines.l0] at h
 | k + 1 => by
  have B0 := round_machine_lines.mono_l k
  ·intro y0 y1 y2 y3 y4
   unfold round_machine_lines.l0
   repeat' first
   | (with_reducible exact B0 _ _ _ _ _)
   | (with_reducible exact round_machine_honest.mono _ _ _ _ _ _ _ _ _ _ _ _ _)
   | (with_reducible exact LeO.refl _)
   | (with_reducible exact LeO.none _)
   | (with_reducible refine LeO.ite ?_ ?_)
   | (with_reducible refine LeO.bind ?_ (fun _ => ?_))
   | exact B0 _ _ _ _ _
   | exact round_machine_honest.mono _ _ _ _ _ _ _ _ _ _ _ _ _
   | exact LeO.none _
   | refine LeO.ite ?_ ?_
   | refine LeO.bind ?_ (fun _ => ?_)
theorem round_machine_lines.mono : ∀ a0 a1 a2 a3 a4 a5 a6 a7 a8 a9 B0 B1 B2 k, LeO (round_machine_lines.f k a0 a1 a2 a3 a4 a5 a6 a7 a8 a9 B0 B1 B2) (round_machine_lines.f (k + 1) a0 a1 a2 a3 a4 a5 a6 a7 a8 a9 B0 B1 B2) := by
 intro a0 a1 a2 a3 a4 a5 a6 a7 a8 a9 B0 B1 B2 k
 have B3 := round_machine_lines.mono_l k
 unfold round_machine_lines.f
 repeat' first
   | (with_reducible exact B3 _ _ _ _ _)
   | (with_reducible exact round_machine_honest.mono _ _ _ _ _ _ _ _ _ _ _ _ _)
   | (with_reducible exact LeO.refl _)
   | (with_reducible exact LeO.none _)
   | (with_reducible refine LeO.ite ?_ ?_)
   | (with_reducible refine LeO.bind ?_ (fun _ => ?_))
   | exact B3 _ _ _ _ _
   | exact round_machine_honest.mono _ _ _ _ _ _ _ _ _ _ _ _ _
   | exact LeO.none _
   | refine LeO.ite ?_ ?_
   | refine LeO.bind ?_ (fun _ => ?_)
set_option maxHeartbeats 8000000 in
set_option maxRecDepth 100000 in
theorem round_machine_lines.calls (k : Nat) (B5 Be Bf Bg Bh Bi Bj Bk Bl Bm : Int) (Ba : Option Addr) (Bb : Nat) (B3 : List Int) (Bc : Option Addr) (Bd : Nat) (B4 : List Int) (A1 : Option Addr) (c1 : Nat) (l1 r : List ByteArray) (w : World) (Br : Kd.C (Kd.int .i64) w Ba B3.length B3) (Bs : B3.length ≤ Bb) (Bt : Kd.C (Kd.int .i64) w Bc B4.length B4) (Bu : B4.length ≤ Bd) (E9 : Kd.C Kd.string w A1 l1.length l1) (Ea : l1.length ≤ c1) (h : round_machine_lines.f k B5 Be Bf Bg Bh Bi Bj Bk Bl Bm B3 B4 l1 = some r) :
  Calls Try.prog 22 #[.agg #[.int .i64 B5, .int .i64 Be, .int .i64 Bf, .int .i64 Bg, .int .i64 Bh, .int .i64 Bi, .int .i64 Bj, .int .i64 Bk, .int .i64 Bl, .int .i64 Bm, .slice Ba B3.length Bb, .slice Bc B4.length Bd], .slice A1 l1.length c1] w fun e w' => ∃ Eb : Value, e = .returned (Eb) ∧ Kd.R Kd.string 9 w' w.heap.size (fun _ => True) Eb r ∧ Below w.heap.size w w' := by
 have D0 := am_ Br
 have D1 := am_ Bs
 clear Br Bs
 have D2 := am_ Bt
 have D3 := am_ Bu
 clear Bt Bu
 have Ek := am_ E9
 have Eo := am_ Ea
 clear E9 Ea
 have HB := am_ (Below.refl w.heap.size w)
 have H := h
 unfold round_machine_lines.f at H
 clear h
 by_cases c3 : 0 ≤ B5
 ·rw [if_pos c3] at H
  have Dr := eq_true c3
  have Ds : decide (0 ≤ B5) = true := decide_eq_true c3
  clear c3
  by_cases c4 : (B5 : Int).toNat ≤ 17592186044416
  ·rw [if_pos c4] at H
   have Dt := eq_true c4
   have Du : decide ((B5 : Int).toNat ≤ 17592186044416) = true := decide_eq_true c4
   clear c4
   obtain ⟨y402, hy402⟩ : ∃ y_ : List ByteArray, y_ = (List.replicate (B5 : Int).toNat (⟨#[]⟩ : ByteArray)) := ⟨_, rfl⟩
   replace H : ((round_machine_honest.f k B5 Be Bf Bg Bh Bi Bj Bk Bl Bm B3 B4).bind fun B1 => (round_machine_lines.l0 k l1 y402 B1 (B1.length : Int) 0)) = some r := by first | (rw [hy402]; with_reducible exact H) | (have D4 := (Option.bind_some _ _).symm.trans H; rw [hy402]; with_reducible exact D4) | (have D4 := (Option.bind_some _ _).symm.trans H; with_reducible exact D4) | with_reducible exact H | (rw [hy402]; exact H) | exact H
   have By := am_ hy402
   clear hy402
   obtain ⟨B1, A5, H⟩ := bes_ H
   try dsimp only at H
   have H' := am_ H
   clear H
   go_enter Try.func22, Try.ntmps22
   go_wp2_with (first | ((with_reducible refine gate_load (t := 47) (x := .tmp 2) rfl ?_); refine lrg_ 47 (.tmp 2) Bp 47 (by exact B2.out) Try.underlying47 ?_) | ((with_reducible refine gate_dst (N := 2) rfl ?_); refine bxe_ 2 47 #[.int .i64 B5, .int .i64 Be, .int .i64 Bf, .int .i64 Bg, .int .i64 Bh, .int .i64 Bi, .int .i64 Bj, .int .i64 Bk, .int .i64 Bl, .int .i64 Bm, .slice Ba B3.length Bb, .slice Bc B4.length Bd] ?_; intro Bp hg w6 hbox hb; have B2 := am_ (hbox); have Dc := gwk_ HB hg; have Bq := Dc; replace HB := bst_ HB hb; clear hb hbox hg; have Dv := cells_12 B2.out; have Dw := frozen_12 B2.out) | ((with_reducible refine gate_dst (N := 11) rfl ?_); refine Kd.R_make Kd.string _ 9 rfl (N := 11) rfl 27 _ _ rfl B5 rfl rfl Try.underlying27 (.string ⟨#[]⟩) 16 info9 rfl (by decide) (by omega) (⟨#[]⟩ : ByteArray) (ok := fun _ => True) (okp := fun _ => True) rfl (fun _ hk => hk) trivial (of_decide_eq_true (by first | (with_reducible assumption) | assumption)) (Nat.le_trans (Nat.mul_le_mul_right _ (of_decide_eq_true (by first | (with_reducible assumption) | assumption) : B5.toNat ≤ 17592186044416)) (by omega)) (Below.refl _ _) (Nat.le_refl _) ?_; intro v403 w8 Dd hb hg_ hnew_; clear hg_ hnew_; (first | rw [← By.out] at Dd | (simp only [Int.reduceToNat] at Dd; rw [← By.out] at Dd)); have Bv := am_ (Kd.R_lower Dd (below_size HB.out)); replace B2 := bkb_ B2 hb; replace HB := bst_ HB hb; clear hb Dd; have Dx := cells_12 B2.out; have Dy := frozen_12 B2.out) | ((with_reducible refine gate_callee (f := 21) rfl ?_); refine gom_ (some 13) Try.func21 (round_machine_honest.calls k B5 Be Bf Bg Bh Bi Bj Bk Bl Bm _ _ B3 _ _ B4 _ _ (Kd.C_below D0.out HB.out) D1.out (Kd.C_below D2.out HB.out) D3.out A5.out) ?_; rintro e w11 ⟨v406, rfl, Ec, hb⟩; refine ⟨_, rfl, ?_⟩; replace Bv := am_ (Kd.R_below Bv.out hb); have Bz := am_ (Kd.R_lower Ec (below_size HB.out)); replace B2 := bkb_ B2 hb; replace HB := bst_ HB hb; (try clear hb); (try clear Ec); obtain ⟨Dz, E0, E1⟩ := Kd.R_slice Bz.out; subst E1))
   go_loopg [15] k (fun kq v15 w' => ∃ (B8 : List ByteArray) (B0 : Int), v15 = .int .i64 B0 ∧ Aside0 (round_machine_lines.l0 kq l1 B8 B1 (B1.length : Int) B0 = some r) ∧ Aside0 (kq ≤ k) ∧ Aside0 (Kd.R Kd.string 9 w' w.heap.size (fun _ => True) v403 B8) ∧ Aside0 (Kd.R (Kd.int .i64) 3 w' w.heap.size (fun _ => True) (.slice Dz B1.length E0) B1) ∧ Aside0 (w'.heap[Bp]? = some (.cells #[.int .i64 B5, .int .i64 Be, .int .i64 Bf, .int .i64 Bg, .int .i64 Bh, .int .i64 Bi, .int .i64 Bj, .int .i64 Bk, .int .i64 Bl, .int .i64 Bm, (.slice Ba B3.length Bb), (.slice Bc B4.length Bd)] 47 (0, 0))) ∧ Aside0 (Below w.heap.size w w'))
   case atStart => exact ⟨(y402), (0), (by first | rfl | (simp; done) | (simp [*]; done)), H', ⟨Nat.le_refl _⟩, ⟨by (with_reducible repeat (first | apply Kd.R_alloc | apply Kd.R_drewN | apply Kd.R_drew)); exact Bv.out⟩, ⟨by (with_reducible repeat (first | apply Kd.R_alloc | apply Kd.R_drewN | apply Kd.R_drew)); exact Bz.out⟩, ⟨by (with_reducible repeat (first | apply kn_ | apply kd_ | apply ka_)); exact B2.out⟩, ⟨by repeat (first | (with_reducible first | exact HB.out | apply ba_ | apply bn_ | apply bd_ | refine bs_ ?_ Bq.out) | exact HB.out)⟩⟩
   case round =>
    clear H'
    try clear c1
    try clear c2
    try clear p2
    try clear c3
    try clear Dr
    try clear Ds
    try clear c4
    try clear Dt
    try clear Du
    try clear hcz10_0 hcz10_1 hcz10_2 hcz10_3 hcz10_4 hcz10_5 hcz10_6 hcz10_7 hcz10_8 hcz10_9 hcz10_10 hcz10_11
    try clear hcz7_0 hcz7_1 hcz7_2 hcz7_3 hcz7_4 hcz7_5 hcz7_6 hcz7_7 hcz7_8 hcz7_9 hcz7_10 hcz7_11
    try clear hfz10_0 hfz10_1 hfz10_2 hfz10_3 hfz10_4 hfz10_5 hfz10_6 hfz10_7 hfz10_8 hfz10_9 hfz10_10 hfz10_11
    try clear hfz7_0 hfz7_1 hfz7_2 hfz7_3 hfz7_4 hfz7_5 hfz7_6 hfz7_7 hfz7_8 hfz7_9 hfz7_10 hfz7_11
    obtain ⟨B8, B0, rfl, HA, Dm, B7, B6, B2, HB⟩ := hrel
    cases gk with
    | zero => exact absurd HA.out (by simp [round_machine_lines.l0])
    | succ k1 =>
     have H := HA.out
     clear HA
     simp only [round_machine_lines.l0] at H
     by_cases Da : B0 < (B1.length : Int)
     ·rw [if_pos Da] at H
      have De : decide (B0 < (B1.length : Int)) = true := decide_eq_true Da
      clear Da
      by_cases Dn : 0 ≤ B0
      ·rw [if_pos Dn] at H
       have Ed : decide (0 ≤ B0) = true := decide_eq_true Dn
       clear Dn
       by_cases Do : B0 < (B1.length : Int)
       ·rw [if_pos Do] at H
        have Ee : decide (B0 < (B1.length : Int)) = true := decide_eq_true Do
        clear Do
        by_cases Db : (rd B1 B0) < (l1.length : Int)
        ·rw [if_pos Db] at H
         have Df : decide ((rd B1 B0) < (l1.length : Int)) = true := decide_eq_true Db
         clear Db
         by_cases Dp : 0 ≤ (rd B1 B0)
         ·rw [if_pos Dp] at H
          have Ef : decide (0 ≤ (rd B1 B0)) = true := decide_eq_true Dp
          clear Dp
          obtain ⟨D5, El, H⟩ := bes_ H
          try dsimp only at H
          by_cases Dq : (rd B1 B0) < (B8.length : Int)
          ·rw [if_pos Dq] at H
           have Eg : decide ((rd B1 B0) < (B8.length : Int)) = true := decide_eq_true Dq
           clear Dq
           obtain ⟨y411, hy411⟩ : ∃ y_ : List ByteArray, y_ = (B8.set ((rd B1 B0) : Int).toNat D5) := ⟨_, rfl⟩
           replace H : (round_machine_lines.l0 k1 l1 y411 B1 (B1.length : Int) (wrap64 (B0 + 1))) = some r := by first | (rw [hy411]; with_reducible exact H) | (have D4 := (Option.bind_some _ _).symm.trans H; rw [hy411]; with_reducible exact D4) | (have D4 := (Option.bind_some _ _).symm.trans H; with_reducible exact D4) | with_reducible exact H | (rw [hy411]; exact H) | exact H
           have Dg := am_ hy411
           clear hy411
           have H' := am_ H
           clear H
           have Bn : 0 ≤ (B0 : Int) := of_decide_eq_true (by first | (with_reducible assumption) | assumption)
           have Bo : B0 < (B1.length : Int) := of_decide_eq_true (by first | (with_reducible assumption) | assumption)
           obtain ⟨Dh, D6, Bw⟩ := Kd.at_int (Kd.R_reads' B6.out).2.2 B0 Bn Bo
           cases D6
           replace Bn := eq_true Bn
           replace Bo := eq_true Bo
           have D7 : 0 ≤ ((rd B1 B0) : Int) := of_decide_eq_true (by first | (with_reducible assumption) | assumption)
           have D8 : (rd B1 B0) < (l1.length : Int) := of_decide_eq_true (by first | (with_reducible assumption) | assumption)
           obtain ⟨Eh, E2, B9⟩ := Kd.at_string Ek.out (rd B1 B0) D7 D8
           cases E2
           replace B9 := (HB.out.cell (World.block_lt_of_cell? w _ B9)).trans B9
           replace D7 := eq_true D7
           replace D8 := eq_true D8
           go_wp2_with (first | ((with_reducible refine gate_load (t := 47) (x := .tmp 2) rfl ?_); refine lrg_ 47 (.tmp 2) Bp 47 (by exact B2.out) Try.underlying47 ?_) | ((with_reducible refine gate_callee (f := 48) rfl ?_); refine gom_ (some 29) Try.func48 (round_cut.calls (rdOf ByteArray.empty l1 (rd B1 B0)) _ _ El.out) ?_; rintro e w21 ⟨rfl, hb⟩; refine ⟨_, rfl, ?_⟩; replace B7 := am_ (Kd.R_below B7.out hb); replace B6 := am_ (Kd.R_below B6.out hb); replace B2 := bkb_ B2 hb; replace HB := bst_ HB hb; (try clear hb); have E3 : 0 ≤ ((rd B1 B0) : Int) := of_decide_eq_true (by first | (with_reducible assumption) | assumption); have E4 : ((rd B1 B0) : Int) < ((B8.length : Int) : Int) := of_decide_eq_true (by first | (with_reducible assumption) | assumption); obtain ⟨Bx, Di, Dj, Dk, E5, Em, Dl⟩ := Kd.R_form B7.out (by omega); (first | cases Dj | (injection Dj with ea_ en_ ec_; (first | subst ea_ | (injection ea_ with ea_; subst ea_)); subst ec_; clear en_)); have E6 := am_ Dk; have En := am_ Dl; clear Dk E5 Dl; obtain ⟨E7, E8⟩ := Kd.R_celln (⟨#[]⟩ : ByteArray) B7.out ((rd B1 B0) : Int) E3 E4; replace E3 := eq_true E3; replace E4 := eq_true E4; obtain ⟨Ei, Ej⟩ := Kd.R_celln (⟨#[]⟩ : ByteArray) B7.out ((rd B1 B0) : Int) (of_decide_eq_true (by first | (with_reducible assumption) | assumption)) (of_decide_eq_true (by first | (with_reducible assumption) | assumption)); have D9 := Kd.R_putg B7.out ((rd B1 B0) : Int) D5) | ((with_reducible refine gate_store (t := 9) (p := 30) rfl ?_); refine store_event (t := 9) (p := 30) (v := ?vo_w23) (w1 := (w21.setCell ⟨Bx, ((rd B1 B0) : Int).toNat, none⟩ (.string D5))) ?hg ?ho ?hn ?hr ?_; (case ho => rfl); (case hg => rfl); (case hn => rfl); (case hr => first | (go_simp; done) | (go_simp; rfl)); intro w23 hw; have hg : w21.grownBy w23 (some Bx) := (by rw [hw]; exact D9.2); have hp_ : Kd.R Kd.string 9 w23 w.heap.size (fun _ => True) (.slice (some ⟨Bx, 0, none⟩) B8.length Di) y411 := (by rw [hw, Dg.out]; exact D9.1); clear D9; replace B6 := am_ (Kd.R_over' (v := (.slice (some ⟨Bx, 0, none⟩) B8.length Di)) (by (with_reducible repeat (first | apply Kd.R_alloc | apply Kd.R_drewN | apply Kd.R_drew)); exact B6.out) (Kd.R_typed B7.out) (by decide) hg); replace B2 := am_ (blk_grown (g := Bp) (o := .cells #[.int .i64 B5, .int .i64 Be, .int .i64 Bf, .int .i64 Bg, .int .i64 Bh, .int .i64 Bi, .int .i64 Bj, .int .i64 Bk, .int .i64 Bl, .int .i64 Bm, .slice Ba B3.length Bb, .slice Bc B4.length Bd] 47 (0, 0)) (by (with_reducible repeat (first | apply kn_ | apply kd_ | apply ka_)); exact B2.out) hg (Kd.R_ne B7.out B2.out (by decide))); replace B7 := am_ (hp_); replace HB := am_ ((by rw [hw]; exact below_set (HB.out) E6.out : Below w.heap.size w w23)); clear hg hw hp_))
           go_roundg k1
           case measure => have := Dm.out; omega
           case rel => exact ⟨(y411), (wrap64 (B0 + 1)), (by first | rfl | (simp; done) | (simp [*]; done)), H', ⟨by have := Dm.out; omega⟩, ⟨by (with_reducible repeat (first | apply Kd.R_alloc | apply Kd.R_drewN | apply Kd.R_drew)); exact B7.out⟩, ⟨by (with_reducible repeat (first | apply Kd.R_alloc | apply Kd.R_drewN | apply Kd.R_drew)); exact B6.out⟩, ⟨by (with_reducible repeat (first | apply kn_ | apply kd_ | apply ka_)); exact B2.out⟩, ⟨by repeat (first | (with_reducible first | exact HB.out | apply ba_ | apply bn_ | apply bd_ | refine bs_ ?_ Bq.out) | exact HB.out)⟩⟩
          ·rw [if_neg Dq] at H
           exact absurd H (by simp)
         ·rw [if_neg Dp] at H
          exact absurd H (by simp)
        ·rw [if_neg Db] at H
         have Df : decide ((rd B1 B0) < (l1.length : Int)) = false := decide_eq_false Db
         clear Db
         have H' := am_ H
         clear H
         have Bn : 0 ≤ (B0 : Int) := of_decide_eq_true (by first | (with_reducible assumption) | assumption)
         have Bo : B0 < (B1.length : Int) := of_decide_eq_true (by first | (with_reducible assumption) | assumption)
         obtain ⟨Dh, D6, Bw⟩ := Kd.at_int (Kd.R_reads' B6.out).2.2 B0 Bn Bo
         cases D6
         replace Bn := eq_true Bn
         replace Bo := eq_true Bo
         go_wp2
         go_roundg k1
         case measure => have := Dm.out; omega
         case rel => exact ⟨(B8), (wrap64 (B0 + 1)), (by first | rfl | (simp; done) | (simp [*]; done)), H', ⟨by have := Dm.out; omega⟩, ⟨by (with_reducible repeat (first | apply Kd.R_alloc | apply Kd.R_drewN | apply Kd.R_drew)); exact B7.out⟩, ⟨by (with_reducible repeat (first | apply Kd.R_alloc | apply Kd.R_drewN | apply Kd.R_drew)); exact B6.out⟩, ⟨by (with_reducible repeat (first | apply kn_ | apply kd_ | apply ka_)); exact B2.out⟩, ⟨by repeat (first | (with_reducible first | exact HB.out | apply ba_ | apply bn_ | apply bd_ | refine bs_ ?_ Bq.out) | exact HB.out)⟩⟩
       ·rw [if_neg Do] at H
        exact absurd H (by simp)
      ·rw [if_neg Dn] at H
       exact absurd H (by simp)
     ·rw [if_neg Da] at H
      have De : decide (B0 < (B1.length : Int)) = false := decide_eq_false Da
      clear Da
      obtain rfl := Option.some.inj H
      go_wp2
      go_ret
      exact ⟨_, by first | rfl | (simp [*] <;> rfl), by (with_reducible repeat (first | apply Kd.R_alloc | apply Kd.R_drewN | apply Kd.R_drew)); exact B7.out, by repeat (first | (with_reducible first | exact HB.out | apply ba_ | apply bn_ | apply bd_ | refine bs_ ?_ Bq.out) | exact HB.out)⟩
  ·rw [if_neg c4] at H
   exact absurd H (by simp)
 ·rw [if_neg c3] at H
  exact absurd H (by simp)
end Go.Proofs.Ytdnccjlfongdeaa.Gn
