import Derived.Test.YthdoghhmooodjaaZPremiseLastGn0
import Derived.Test.YthdoghhmooodjaaZPremiseLastGn1
import Derived.Test.YthdoghhmooodjaaZPremiseLastGn27
namespace Go.Proofs.Ythdoghhmooodjaa.Gn
open Go.RowKit Go.Proofs.YthdoghhmooodjaaW.PrintWords Go.Proofs.YthdoghhmooodjaaW.PrintLast Go.Proofs.YthdoghhmooodjaaW.PrintMore
attribute [local go_sem] max2_int min2_int max_two min_two max_three min_three max_four min_four   -- for this text's walks alone
set_option linter.unusedVariables false
set_option linter.unusedSimpArgs false
def r33_Faulty.f (k : Nat) (B5 B6 B7 B8 B9 Ba Bb Bc Bd Be : Int) (B2 B0 : List Int) (B3 : List ByteArray) (B4 : List (S44)) (a1 : Int) : Option (Bool) := (r14_In.f k B0 a1).bind fun B1 => (some B1)
set_option maxHeartbeats 8000000 in
set_option maxRecDepth 100000 in
theorem r33_Faulty.calls (k : Nat) (Bl Bm Bn Bo Bp Bq Br Bs Bt Bu : Int) (B4 : Option Addr) (B5 : Nat) (B1 : List Int) (B6 : Option Addr) (B7 : Nat) (B0 : List Int) (B8 : Option Addr) (B9 : Nat) (B2 : List ByteArray) (Ba : Option Addr) (Bb : Nat) (B3 : List (S44)) (a1 : Int) (r : Bool) (w : World) (Bc : Kd.C (Kd.int .i64) w B4 B1.length B1) (Bd : B1.length ≤ B5) (Be : Kd.C (Kd.int .i64) w B6 B0.length B0) (Bf : B0.length ≤ B7) (Bg : Kd.C Kd.string w B8 B2.length B2) (Bh : B2.length ≤ B9) (Bi : Kd.C k44 w Ba B3.length B3) (Bj : B3.length ≤ Bb) (h : r33_Faulty.f k Bl Bm Bn Bo Bp Bq Br Bs Bt Bu B1 B0 B2 B3 a1 = some r) :
  Calls Try.prog 21 #[.agg #[.int .i64 Bl, .int .i64 Bm, .int .i64 Bn, .int .i64 Bo, .int .i64 Bp, .int .i64 Bq, .int .i64 Br, .int .i64 Bs, .int .i64 Bt, .int .i64 Bu, .slice B4 B1.length B5, .slice B6 B0.length B7, .slice B8 B2.length B9, .slice Ba B3.length Bb], .int .i64 a1] w fun e w' => e = .returned (.bool r) ∧ Below w.heap.size w w' := by
 have D0 := am_ Bc
 have D1 := am_ Bd
 clear Bc Bd
 have Bv := am_ Be
 have Bw := am_ Bf
 clear Be Bf
 have D2 := am_ Bg
 have D3 := am_ Bh
 clear Bg Bh
 have D4 := am_ Bi
 have D5 := am_ Bj
 clear Bi Bj
 have HB := am_ (Below.refl w.heap.size w)
 have H := h
 unfold r33_Faulty.f at H
 clear h
 replace H := Option.bind_eq_some_iff.mp H
 obtain ⟨D6, D9, H⟩ := H
 replace H : (some D6) = some r := H
 have A3 := am_ D9
 clear D9
 obtain rfl := Option.some.inj H
 go_enter Try.func21, Try.ntmps21
 go_wp2_with (first | ((with_reducible refine gate_load (t := 28) (x := .tmp 2) rfl ?_); refine lrg_ 28 (.tmp 2) Bx 28 (by exact Bk.out) Try.underlying28 ?_) | ((with_reducible refine gate_dst (N := 2) rfl ?_); refine bxe_ 2 28 #[.int .i64 Bl, .int .i64 Bm, .int .i64 Bn, .int .i64 Bo, .int .i64 Bp, .int .i64 Bq, .int .i64 Br, .int .i64 Bs, .int .i64 Bt, .int .i64 Bu, .slice B4 B1.length B5, .slice B6 B0.length B7, .slice B8 B2.length B9, .slice Ba B3.length Bb] ?_; intro Bx hg w4 hbox hb; have Bk := am_ (hbox); have By := gwk_ HB hg; have Bz := By; replace HB := bst_ HB hb; clear hb hbox hg; have D7 := cells_14 Bk.out; have D8 := frozen_14 Bk.out) | ((with_reducible refine gate_callee (f := 44) rfl ?_); refine gom_ (some 8) Try.func44 (r14_In.calls k _ _ B0 a1 _ _ (Kd.C_below Bv.out HB.out) Bw.out A3.out) ?_; rintro e w' ⟨rfl, ⟨nd, rfl⟩⟩; refine ⟨_, rfl, ?_⟩))
 go_ret
 exact ⟨by first | rfl | (simp [*] <;> rfl), by repeat (first | (with_reducible first | exact HB.out | apply ba_ | apply bn_ | apply bd_ | refine bs_ ?_ Bz.out) | exact HB.out)⟩
def r33_Honest.l0 : Nat → List Int → Int → Int → Int → Int → Int → Int → Int → Int → Int → Int → Int → List Int → List Int → List ByteArray → List (S44) → Option (List Int)
 | 0, _, _, _, _, _, _, _, _, _, _, _, _, _, _, _, _ => none
 | k + 1, x3, x4, B0, B1, B2, B3, B4, B5, B6, B7, B8, B9, Ba, Bb, Bc, Bd => (r01_Clamp.f B0 0 13).bind fun Be => (if x4 < Be then ((r33_Faulty.f k B0 B1 B2 B3 B4 B5 B6 B7 B8 B9 Ba Bb Bc Bd x4).bind fun Bf => (if Bf = true then (r33_Honest.l0 k x3 (wrap64 (x4 + 1)) B0 B1 B2 B3 B4 B5 B6 B7 B8 B9 Ba Bb Bc Bd) else (if x3.length < 17592186044416 then (r33_Honest.l0 k (x3 ++ [x4]) (wrap64 (x4 + 1)) B0 B1 B2 B3 B4 B5 B6 B7 B8 B9 Ba Bb Bc Bd) else (none)))) else (some x3))
def r33_Honest.f (k : Nat) (B4 B5 B6 B7 B8 B9 Ba Bb Bc Bd : Int) (B0 B1 : List Int) (B2 : List ByteArray) (B3 : List (S44)) : Option (List Int) := r33_Honest.l0 k ([] : List Int) 0 B4 B5 B6 B7 B8 B9 Ba Bb Bc Bd B0 B1 B2 B3
set_option maxHeartbeats 8000000 in
set_option maxRecDepth 100000 in
theorem r33_Honest.calls (k : Nat) (B7 B9 Ba Bb Bc Bd Be Bf Bg Bh : Int) (Bi : Option Addr) (Bj : Nat) (B1 : List Int) (Bk : Option Addr) (Bl : Nat) (B2 : List Int) (Bm : Option Addr) (Bn : Nat) (B3 : List ByteArray) (Bo : Option Addr) (Bp : Nat) (B4 : List (S44)) (r : List Int) (w : World) (Bs : Kd.C (Kd.int .i64) w Bi B1.length B1) (Bt : B1.length ≤ Bj) (Bu : Kd.C (Kd.int .i64) w Bk B2.length B2) (Bv : B2.length ≤ Bl) (Bw : Kd.C Kd.string w Bm B3.length B3) (Bx : B3.length ≤ Bn) (By : Kd.C k44 w Bo B4.length B4) (Bz : B4.length ≤ Bp) (h : r33_Honest.f k B7 B9 Ba Bb Bc Bd Be Bf Bg Bh B1 B2 B3 B4 = some r) :
  Calls Try.prog 24 #[.agg #[.int .i64 B7, .int .i64 B9, .int .i64 Ba, .int .i64 Bb, .int .i64 Bc, .int .i64 Bd, .int .i64 Be, .int .i64 Bf, .int .i64 Bg, .int .i64 Bh, .slice Bi B1.length Bj, .slice Bk B2.length Bl, .slice Bm B3.length Bn, .slice Bo B4.length Bp]] w fun e w' => ∃ Dm : Value, e = .returned (Dm) ∧ Kd.R (Kd.int .i64) 3 w' w.heap.size (fun _ => True) Dm r ∧ Below w.heap.size w w' := by
 have D0 := am_ Bs
 have D1 := am_ Bt
 clear Bs Bt
 have D2 := am_ Bu
 have D3 := am_ Bv
 clear Bu Bv
 have D4 := am_ Bw
 have D5 := am_ Bx
 clear Bw Bx
 have D6 := am_ By
 have D7 := am_ Bz
 clear By Bz
 have HB := am_ (Below.refl w.heap.size w)
 have H := h
 unfold r33_Honest.f at H
 clear h
 have H' := am_ H
 clear H
 go_enter Try.func24, Try.ntmps24
 go_wp2_with (first | ((with_reducible refine gate_load (t := 28) (x := .tmp 1) rfl ?_); refine lrg_ 28 (.tmp 1) B8 28 (by exact B0.out) Try.underlying28 ?_) | ((with_reducible refine gate_dst (N := 1) rfl ?_); refine bxe_ 1 28 #[.int .i64 B7, .int .i64 B9, .int .i64 Ba, .int .i64 Bb, .int .i64 Bc, .int .i64 Bd, .int .i64 Be, .int .i64 Bf, .int .i64 Bg, .int .i64 Bh, .slice Bi B1.length Bj, .slice Bk B2.length Bl, .slice Bm B3.length Bn, .slice Bo B4.length Bp] ?_; intro B8 hg w2 hbox hb; have B0 := am_ (hbox); have D9 := gwk_ HB hg; have Bq := D9; replace HB := bst_ HB hb; clear hb hbox hg))
 go_loopg [3, 4] k (fun kq v3 v4 w' => ∃ (Br : List Int) (B6 : Int), v4 = .int .i64 B6 ∧ Aside0 (r33_Honest.l0 kq Br B6 B7 B9 Ba Bb Bc Bd Be Bf Bg Bh B1 B2 B3 B4 = some r) ∧ Aside0 (kq ≤ k) ∧ Aside0 (Kd.R (Kd.int .i64) 3 w' w.heap.size (fun _ => True) v3 Br) ∧ Aside0 (w'.heap[B8]? = some (.cells #[.int .i64 B7, .int .i64 B9, .int .i64 Ba, .int .i64 Bb, .int .i64 Bc, .int .i64 Bd, .int .i64 Be, .int .i64 Bf, .int .i64 Bg, .int .i64 Bh, (.slice Bi B1.length Bj), (.slice Bk B2.length Bl), (.slice Bm B3.length Bn), (.slice Bo B4.length Bp)] 28 (0, 0))) ∧ Aside0 (Below w.heap.size w w'))
 case atStart => exact ⟨(([] : List Int)), (0), (by first | rfl | (simp; done) | (simp [*]; done)), H', ⟨Nat.le_refl _⟩, ⟨by first | exact Kd.R_nil _ _ _ _ _ | exact Kd.N_nil _ _ _ _ _ | exact Kd.V_nil _ _ _ _ _ | exact Kd.Q_nil _ _ _ _ _ | exact Kd.S_nil _ _ _ _ _⟩, ⟨by (with_reducible repeat (first | apply kn_ | apply kd_ | apply ka_)); exact B0.out⟩, ⟨by repeat (first | (with_reducible first | exact HB.out | apply ba_ | apply bn_ | apply bd_ | refine bs_ ?_ Bq.out) | exact HB.out)⟩⟩
 case round =>
  clear H'
  try clear c2
  try clear p2
  obtain ⟨Br, B6, rfl, HA, Dd, B5, B0, HB⟩ := hrel
  cases gk with
  | zero => exact absurd HA.out (by simp [r33_Honest.l0])
  | succ k1 =>
   have H := HA.out
   clear HA
   simp only [r33_Honest.l0] at H
   obtain ⟨D8, A3, H⟩ := bes_ H
   try dsimp only at H
   by_cases c4 : B6 < D8
   ·rw [if_pos c4] at H
    have Df : decide (B6 < D8) = true := decide_eq_true c4
    clear c4
    obtain ⟨Dg, A5, H⟩ := bes_ H
    try dsimp only at H
    by_cases c6 : Dg = true
    ·subst c6
     rw [if_pos rfl] at H
     have H' := am_ H
     clear H
     have Dr := cells_14 B0.out
     have Ds := frozen_14 B0.out
     go_wp2_with (first | ((with_reducible refine gate_load (t := 28) (x := .tmp 1) rfl ?_); refine lrg_ 28 (.tmp 1) B8 28 (by exact B0.out) Try.underlying28 ?_) | ((with_reducible refine gate_callee (f := 50) rfl ?_); refine gom_ (some 9) Try.func50 (r01_Clamp.calls B7 0 13 _ _ A3.out) ?_; rintro e w8 ⟨rfl, hb⟩; refine ⟨_, rfl, ?_⟩; replace B5 := am_ (Kd.R_below B5.out hb); replace B0 := bkb_ B0 hb; replace HB := bst_ HB hb; (try clear hb); have Dh := cells_14 B0.out; have Di := frozen_14 B0.out) | ((with_reducible refine gate_callee (f := 21) rfl ?_); refine gom_ (some 15) Try.func21 (r33_Faulty.calls k1 B7 B9 Ba Bb Bc Bd Be Bf Bg Bh _ _ B1 _ _ B2 _ _ B3 _ _ B4 B6 _ _ (Kd.C_below D0.out HB.out) D1.out (Kd.C_below D2.out HB.out) D3.out (Kd.C_below D4.out HB.out) D5.out (Kd.C_below D6.out HB.out) D7.out A5.out) ?_; rintro e w10 ⟨rfl, hb⟩; refine ⟨_, rfl, ?_⟩; replace B5 := am_ (Kd.R_below B5.out hb); replace B0 := bkb_ B0 hb; replace HB := bst_ HB hb; (try clear hb)))
     go_roundg k1
     case measure => have := Dd.out; omega
     case rel => exact ⟨(Br), (wrap64 (B6 + 1)), (by first | rfl | (simp; done) | (simp [*]; done)), H', ⟨by have := Dd.out; omega⟩, ⟨by (with_reducible repeat (first | apply Kd.R_alloc | apply Kd.R_drewN | apply Kd.R_drew)); exact B5.out⟩, ⟨by (with_reducible repeat (first | apply kn_ | apply kd_ | apply ka_)); exact B0.out⟩, ⟨by repeat (first | (with_reducible first | exact HB.out | apply ba_ | apply bn_ | apply bd_ | refine bs_ ?_ Bq.out) | exact HB.out)⟩⟩
    ·replace c6 := Bool.eq_false_iff.mpr c6
     subst c6
     rw [if_neg (show ¬ (false = true) by decide)] at H
     by_cases De : Br.length < 17592186044416
     ·rw [if_pos De] at H
      have Da := am_ De
      clear De
      obtain ⟨y404, hy404⟩ : ∃ y_ : List Int, y_ = (Br ++ [B6]) := ⟨_, rfl⟩
      replace H : (r33_Honest.l0 k1 y404 (wrap64 (B6 + 1)) B7 B9 Ba Bb Bc Bd Be Bf Bg Bh B1 B2 B3 B4) = some r := by first | (rw [hy404]; with_reducible exact H) | (have Dj := (Option.bind_some _ _).symm.trans H; rw [hy404]; with_reducible exact Dj) | (have Dj := (Option.bind_some _ _).symm.trans H; with_reducible exact Dj) | with_reducible exact H | (rw [hy404]; exact H) | exact H
      have Db := am_ hy404
      clear hy404
      have H' := am_ H
      clear H
      have Dn := cells_14 B0.out
      have Do := frozen_14 B0.out
      go_wp2_with (first | ((with_reducible refine gate_load (t := 28) (x := .tmp 1) rfl ?_); refine lrg_ 28 (.tmp 1) B8 28 (by exact B0.out) Try.underlying28 ?_) | ((with_reducible refine gate_callee (f := 50) rfl ?_); refine gom_ (some 9) Try.func50 (r01_Clamp.calls B7 0 13 _ _ A3.out) ?_; rintro e w13 ⟨rfl, hb⟩; refine ⟨_, rfl, ?_⟩; replace B5 := am_ (Kd.R_below B5.out hb); replace B0 := bkb_ B0 hb; replace HB := bst_ HB hb; (try clear hb); have Dk := cells_14 B0.out; have Dl := frozen_14 B0.out) | ((with_reducible refine gate_callee (f := 21) rfl ?_); refine gom_ (some 15) Try.func21 (r33_Faulty.calls k1 B7 B9 Ba Bb Bc Bd Be Bf Bg Bh _ _ B1 _ _ B2 _ _ B3 _ _ B4 B6 _ _ (Kd.C_below D0.out HB.out) D1.out (Kd.C_below D2.out HB.out) D3.out (Kd.C_below D4.out HB.out) D5.out (Kd.C_below D6.out HB.out) D7.out A5.out) ?_; rintro e w15 ⟨rfl, hb⟩; refine ⟨_, rfl, ?_⟩; replace B5 := am_ (Kd.R_below B5.out hb); replace B0 := bkb_ B0 hb; replace HB := bst_ HB hb; (try clear hb)) | ((with_reducible refine gate_builtin (b := .append) (xs := #[.tmp 17, .tmp 19]) rfl ?_); at_builtin; refine Kd.R_append (Kd.int .i64) (w0 := w) w.heap.size rfl (.tmp 17) (.tmp 19) 22 3 (.int .i64 0) 8 rfl Try.underlying22 info3 rfl (by decide) (by omega) u3 Br B6 [.int .i64 B6] (fun _ => True) (fun _ => False) rfl rfl ?aP (fun _ hk => hk.elim) ?aF ?aO ?aB ?aS ?aL ?_; (case aP => exact rfl); (case aB => exact (by repeat (first | (with_reducible first | exact HB.out | apply ba_ | apply bn_ | apply bd_ | refine bs_ ?_ Bq.out) | exact HB.out))); (case aF => exact (fun _ _ => trivial)); (case aO => exact (by (with_reducible repeat (first | apply Kd.R_alloc | apply Kd.R_drewN | apply Kd.R_drew)); exact B5.out)); (case aS => exact (below_size HB.out)); (case aL => have := Da.out; omega); intro v405 w16 ho hb hg hat; rw [← Db.out] at ho; replace B0 := am_ (blk_grown (g := B8) (o := .cells #[.int .i64 B7, .int .i64 B9, .int .i64 Ba, .int .i64 Bb, .int .i64 Bc, .int .i64 Bd, .int .i64 Be, .int .i64 Bf, .int .i64 Bg, .int .i64 Bh, .slice Bi B1.length Bj, .slice Bk B2.length Bl, .slice Bm B3.length Bn, .slice Bo B4.length Bp] 28 (0, 0)) (by (with_reducible repeat (first | apply kn_ | apply kd_ | apply ka_)); exact B0.out) hg (Kd.R_ne B5.out B0.out (by decide))); replace HB := am_ (hb); have Dc := am_ (ho); clear B5; clear ho hb hg hat))
      go_roundg k1
      case measure => have := Dd.out; omega
      case rel => exact ⟨(y404), (wrap64 (B6 + 1)), (by first | rfl | (simp; done) | (simp [*]; done)), H', ⟨by have := Dd.out; omega⟩, ⟨by (with_reducible repeat (first | apply Kd.R_alloc | apply Kd.R_drewN | apply Kd.R_drew)); exact Dc.out⟩, ⟨by (with_reducible repeat (first | apply kn_ | apply kd_ | apply ka_)); exact B0.out⟩, ⟨by repeat (first | (with_reducible first | exact HB.out | apply ba_ | apply bn_ | apply bd_ | refine bs_ ?_ Bq.out) | exact HB.out)⟩⟩
     ·rw [if_neg De] at H
      exact absurd H (by simp)
   ·rw [if_neg c4] at H
    have Df : decide (B6 < D8) = false := decide_eq_false c4
    clear c4
    obtain rfl := Option.some.inj H
    have Dp := cells_14 B0.out
    have Dq := frozen_14 B0.out
    go_wp2_with (first | ((with_reducible refine gate_load (t := 28) (x := .tmp 1) rfl ?_); refine lrg_ 28 (.tmp 1) B8 28 (by exact B0.out) Try.underlying28 ?_) | ((with_reducible refine gate_callee (f := 50) rfl ?_); refine gom_ (some 9) Try.func50 (r01_Clamp.calls B7 0 13 _ _ A3.out) ?_; rintro e w18 ⟨rfl, hb⟩; refine ⟨_, rfl, ?_⟩; replace B5 := am_ (Kd.R_below B5.out hb); replace B0 := bkb_ B0 hb; replace HB := bst_ HB hb; (try clear hb)))
    go_ret
    exact ⟨_, by first | rfl | (simp [*] <;> rfl), by (with_reducible repeat (first | apply Kd.R_alloc | apply Kd.R_drewN | apply Kd.R_drew)); exact B5.out, by repeat (first | (with_reducible first | exact HB.out | apply ba_ | apply bn_ | apply bd_ | refine bs_ ?_ Bq.out) | exact HB.out)⟩
end Go.Proofs.Ythdoghhmooodjaa.Gn
