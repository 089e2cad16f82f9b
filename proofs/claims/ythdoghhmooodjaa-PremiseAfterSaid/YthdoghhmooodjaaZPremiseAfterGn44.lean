import Derived.Test.YthdoghhmooodjaaZPremiseAfterGn0
import Derived.Test.YthdoghhmooodjaaZPremiseAfterGn1
import Derived.Test.YthdoghhmooodjaaZPremiseAfterGn3
import Derived.Test.YthdoghhmooodjaaZPremiseAfterGn16
import Derived.Test.YthdoghhmooodjaaZPremiseAfterGn64
import Derived.Test.YthdoghhmooodjaaZPremiseAfterGn43
namespace Go.Proofs.Ythdoghhmooodjaa.Gn
open Go.RowKit Go.Proofs.YthdoghhmooodjaaW.PrintWords Go.Proofs.YthdoghhmooodjaaW.PrintLast Go.Proofs.YthdoghhmooodjaaW.PrintMore
attribute [local go_sem] max2_int min2_int max_two min_two max_three min_three max_four min_four   -- for this text's walks alone
set_option linter.unusedVariables false
set_option linter.unusedSimpArgs false
def premise_run_calm.l0 : Nat → Int → List Int → List Int → Int → Int → Int → Int → Int → Int → Int → Int → Int → Int → Int → Int → List Int → List Int → List ByteArray → List (S44) → Option (Bool)
 | 0, _, _, _, _, _, _, _, _, _, _, _, _, _, _, _, _, _, _, _ => none
 | k + 1, x1, x5, Bf, Bi, Be, B0, B1, B2, B3, B4, B5, B6, B7, B8, B9, Ba, Bb, Bc, Bd => if Be < Bi then (if 0 ≤ Be then (if Be < (Bf.length : Int) then ((premise_run_steady.f k B0 B1 B2 B3 B4 B5 B6 B7 B8 B9 Ba Bb Bc Bd x1 (rd Bf Be)).bind fun Bg => (if Bg = true then ((premise_run_swift.f k B0 B1 B2 B3 B4 B5 B6 B7 B8 B9 Ba Bb Bc Bd x1 (rd Bf Be) x5).bind fun Bh => (if Bh = true then (premise_run_calm.l0 k x1 x5 Bf Bi (wrap64 (Be + 1)) B0 B1 B2 B3 B4 B5 B6 B7 B8 B9 Ba Bb Bc Bd) else (some false))) else (some false))) else (none)) else (none)) else (some true)
def premise_run_calm.f (k : Nat) (B4 B5 B6 B7 B8 B9 Ba Bb Bc Bd : Int) (B0 B1 : List Int) (B2 : List ByteArray) (B3 : List (S44)) (a1 : Int) : Option (Bool) := (premise_run_quiet.f B4 B5 B6 B7 B8 B9 Ba Bb Bc Bd B0 B1 B2 B3 a1).bind fun Bf => (if Bf = true then ((script_Honest.f k B4 B5 B6 B7 B8 B9 Ba Bb Bc Bd B0 B1 B2 B3).bind fun Be => (premise_run_calm.l0 k a1 Be Be (Be.length : Int) 0 B4 B5 B6 B7 B8 B9 Ba Bb Bc Bd B0 B1 B2 B3)) else (some false))
theorem premise_run_calm.mono_l : ∀ k, (∀ y0 y1 y2 y3 y4 y5 y6 y7 y8 y9 B0 B1 B2 B3 B4 B5 B6 B7 B8, LeO (premise_run_calm.l0 k y0 y1 y2 y3 y4 y5 y6 y7 y8 y9 B0 B1 B2 B3 B4 B5 B6 B7 B8) (premise_run_calm.l0 (k + 1) y0 y1 y2 y3 y4 y5 y6 y7 y8 y9 B0 B1 B2 B3 B4 B5 B6 B7 B8))
 | 0 => fun _ _ _ _ _ _ _ _ _ _ _ _ _ _ _ _ _ _ _ r h => by simp [premise_run_calm.l0] at h
 | k + 1 => by
  have B9 := premise_run_calm.mono_l k
  ·intro y0 y1 y2 y3 y4 y5 y6 y7 y8 y9 B0 B1 B2 B3 B4 B5 B6 B7 B8
   unfold premise_run_calm.l0
   repeat' first
   | (with_reducible exact B9 _ _ _ _ _ _ _ _ _ _ _ _ _ _ _ _ _ _ _)
   | (with_reducible exact premise_run_steady.mono _ _ _ _ _ _ _ _ _ _ _ _ _ _ _ _ _)
   | (with_reducible exact premise_run_swift.mono _ _ _ _ _ _ _ _ _ _ _ _ _ _ _ _ _ _)
   | (with_reducible exact script_Honest.mono _ _ _ _ _ _ _ _ _ _ _ _ _ _ _)
   | (with_reducible exact LeO.refl _)
   | (with_reducible exact LeO.none _)
   | (with_reducible refine LeO.ite ?_ ?_)
   | (with_reducible refine LeO.bind ?_ (fun _ => ?_))
   | exact B9 _ _ _ _ _ _ _ _ _ _ _ _ _ _ _ _ _ _ _
   | exact premise_run_steady.mono _ _ _ _ _ _ _ _ _ _ _ _ _ _ _ _ _
   | exact premise_run_swift.mono _ _ _ _ _ _ _ _ _ _ _ _ _ _ _ _ _ _
   | exact script_Honest.mono _ _ _ _ _ _ _ _ _ _ _ _ _ _ _
   | exact LeO.none _
   | refine LeO.ite ?_ ?_
   | refine LeO.bind ?_ (fun _ => ?_)
theorem premise_run_calm.mono : ∀ a0 a1 a2 a3 a4 a5 a6 a7 a8 a9 B0 B1 B2 B3 B4 k, LeO (premise_run_calm.f k a0 a1 a2 a3 a4 a5 a6 a7 a8 a9 B0 B1 B2 B3 B4) (premise_run_calm.f (k + 1) a0 a1 a2 a3 a4 a5 a6 a7 a8 a9 B0 B1 B2 B3 B4) := by
 intro a0 a1 a2 a3 a4 a5 a6 a7 a8 a9 B0 B1 B2 B3 B4 k
 have B5 := premise_run_calm.mono_l k
 unfold premise_run_calm.f
 repeat' first
   | (with_reducible exact B5 _ _ _ _ _ _ _ _ _ _ _ _ _ _ _ _ _ _ _)
   | (with_reducible exact premise_run_steady.mono _ _ _ _ _ _ _ _ _ _ _ _ _ _ _ _ _)
   | (with_reducible exact premise_run_swift.mono _ _ _ _ _ _ _ _ _ _ _ _ _ _ _ _ _ _)
   | (with_reducible exact script_Honest.mono _ _ _ _ _ _ _ _ _ _ _ _ _ _ _)
   | (with_reducible exact LeO.refl _)
   | (with_reducible exact LeO.none _)
   | (with_reducible refine LeO.ite ?_ ?_)
   | (with_reducible refine LeO.bind ?_ (fun _ => ?_))
   | exact B5 _ _ _ _ _ _ _ _ _ _ _ _ _ _ _ _ _ _ _
   | exact premise_run_steady.mono _ _ _ _ _ _ _ _ _ _ _ _ _ _ _ _ _
   | exact premise_run_swift.mono _ _ _ _ _ _ _ _ _ _ _ _ _ _ _ _ _ _
   | exact script_Honest.mono _ _ _ _ _ _ _ _ _ _ _ _ _ _ _
   | exact LeO.none _
   | refine LeO.ite ?_ ?_
   | refine LeO.bind ?_ (fun _ => ?_)
set_option maxHeartbeats 8000000 in
set_option maxRecDepth 100000 in
theorem premise_run_calm.calls (k : Nat) (Bh Bi Bj Bk Bl Bm Bn Bo Bp Bq : Int) (Bt : Option Addr) (Bu : Nat) (B2 : List Int) (Bv : Option Addr) (Bw : Nat) (B3 : List Int) (Bx : Option Addr) (By : Nat) (B4 : List ByteArray) (Bz : Option Addr) (D0 : Nat) (B5 : List (S44)) (a1 : Int) (r : Bool) (w : World) (D3 : Kd.C (Kd.int .i64) w Bt B2.length B2) (D4 : B2.length ≤ Bu) (D5 : Kd.C (Kd.int .i64) w Bv B3.length B3) (D6 : B3.length ≤ Bw) (D7 : Kd.C Kd.string w Bx B4.length B4) (D8 : B4.length ≤ By) (D9 : Kd.C k44 w Bz B5.length B5) (Da : B5.length ≤ D0) (h : premise_run_calm.f k Bh Bi Bj Bk Bl Bm Bn Bo Bp Bq B2 B3 B4 B5 a1 = some r) :
  Calls Try.prog 55 #[.agg #[.int .i64 Bh, .int .i64 Bi, .int .i64 Bj, .int .i64 Bk, .int .i64 Bl, .int .i64 Bm, .int .i64 Bn, .int .i64 Bo, .int .i64 Bp, .int .i64 Bq, .slice Bt B2.length Bu, .slice Bv B3.length Bw, .slice Bx B4.length By, .slice Bz B5.length D0], .int .i64 a1] w fun e w' => e = .returned (.bool r) ∧ Below w.heap.size w w' := by
 have Ec := Try.underlying28
 have B8 := am_ D3
 have B9 := am_ D4
 clear D3 D4
 have Ba := am_ D5
 have Bb := am_ D6
 clear D5 D6
 have Bc := am_ D7
 have Bd := am_ D8
 clear D7 D8
 have Be := am_ D9
 have Bf := am_ Da
 clear D9 Da
 have HB := am_ (Below.refl w.heap.size w)
 have H := h
 unfold premise_run_calm.f at H
 clear h
 obtain ⟨Dp, A3, H⟩ := bes_ H
 try dsimp only at H
 by_cases c4 : Dp = true
 ·subst c4
  rw [if_pos rfl] at H
  obtain ⟨B6, A5, H⟩ := bes_ H
  try dsimp only at H
  have H' := am_ H
  clear H
  go_enter Try.func55, Try.ntmps55
  go_wp2_with (first | ((with_reducible refine gate_load (t := 64) (x := .tmp 2) rfl ?_); refine lrg_ 64 (.tmp 2) Br 64 (by exact B0.out) Try.underlying64 ?_) | ((with_reducible refine gate_dst (N := 2) rfl ?_); refine bxe_ 2 64 #[.int .i64 Bh, .int .i64 Bi, .int .i64 Bj, .int .i64 Bk, .int .i64 Bl, .int .i64 Bm, .int .i64 Bn, .int .i64 Bo, .int .i64 Bp, .int .i64 Bq, .slice Bt B2.length Bu, .slice Bv B3.length Bw, .slice Bx B4.length By, .slice Bz B5.length D0] ?_; intro Br hg w6 hbox hb; have B0 := am_ (hbox); have Db := gwk_ HB hg; have Bs := Db; replace HB := bst_ HB hb; clear hb hbox hg; have Dq := cells_14 B0.out; have Dr := frozen_14 B0.out) | ((with_reducible refine gate_callee (f := 87) rfl ?_); refine gom_ (some 10) Try.func87 (premise_run_quiet.calls Bh Bi Bj Bk Bl Bm Bn Bo Bp Bq _ _ B2 _ _ B3 _ _ B4 _ _ B5 a1 _ _ (Kd.C_below B8.out HB.out) B9.out (Kd.C_below Ba.out HB.out) Bb.out (Kd.C_below Bc.out HB.out) Bd.out (Kd.C_below Be.out HB.out) Bf.out A3.out) ?_; rintro e w8 ⟨rfl, hb⟩; refine ⟨_, rfl, ?_⟩; replace B0 := bkb_ B0 hb; replace HB := bst_ HB hb; (try clear hb); have Ds := cells_14 B0.out; have Dt := frozen_14 B0.out) | ((with_reducible refine gate_callee (f := 23) rfl ?_); refine gom_ (some 14) Try.func23 (script_Honest.calls k Bh Bi Bj Bk Bl Bm Bn Bo Bp Bq _ _ B2 _ _ B3 _ _ B4 _ _ B5 _ _ (Kd.C_below B8.out HB.out) B9.out (Kd.C_below Ba.out HB.out) Bb.out (Kd.C_below Bc.out HB.out) Bd.out (Kd.C_below Be.out HB.out) Bf.out A5.out) ?_; rintro e w10 ⟨v404, rfl, E3, hb⟩; refine ⟨_, rfl, ?_⟩; have Dc := am_ (Kd.R_lower E3 (below_size HB.out)); replace B0 := bkb_ B0 hb; replace HB := bst_ HB hb; (try clear hb); (try clear E3); obtain ⟨Dg, Dh, Du⟩ := Kd.R_slice Dc.out; subst Du))
  go_loopg [17] k (fun kq v17 w' => ∃ (B1 : Int), v17 = .int .i64 B1 ∧ Aside0 (premise_run_calm.l0 kq a1 B6 B6 (B6.length : Int) B1 Bh Bi Bj Bk Bl Bm Bn Bo Bp Bq B2 B3 B4 B5 = some r) ∧ Aside0 (kq ≤ k) ∧ Aside0 (Kd.R (Kd.int .i64) 3 w' w.heap.size (fun _ => True) (.slice Dg B6.length Dh) B6) ∧ Aside0 (Kd.R (Kd.int .i64) 3 w' w.heap.size (fun _ => True) (.slice Dg B6.length Dh) B6) ∧ Aside0 (w'.heap[Br]? = some (.cells #[.int .i64 Bh, .int .i64 Bi, .int .i64 Bj, .int .i64 Bk, .int .i64 Bl, .int .i64 Bm, .int .i64 Bn, .int .i64 Bo, .int .i64 Bp, .int .i64 Bq, (.slice Bt B2.length Bu), (.slice Bv B3.length Bw), (.slice Bx B4.length By), (.slice Bz B5.length D0)] 64 (0, 0))) ∧ Aside0 (Below w.heap.size w w'))
  case atStart => exact ⟨(0), (by first | rfl | (simp; done) | (simp [*]; done)), H', ⟨Nat.le_refl _⟩, ⟨by (with_reducible repeat (first | apply Kd.R_alloc | apply Kd.R_drewN | apply Kd.R_drew)); exact Dc.out⟩, ⟨by (with_reducible repeat (first | apply Kd.R_alloc | apply Kd.R_drewN | apply Kd.R_drew)); exact Dc.out⟩, ⟨by (with_reducible repeat (first | apply kn_ | apply kd_ | apply ka_)); exact B0.out⟩, ⟨by repeat (first | (with_reducible first | exact HB.out | apply ba_ | apply bn_ | apply bd_ | refine bs_ ?_ Bs.out) | exact HB.out)⟩⟩
  case round =>
   clear H'
   try clear c2
   try clear p2
   try clear c4
   try clear c5
   try clear c8
   try clear hcz7_0 hcz7_1 hcz7_2 hcz7_3 hcz7_4 hcz7_5 hcz7_6 hcz7_7 hcz7_8 hcz7_9 hcz7_10 hcz7_11 hcz7_12 hcz7_13
   try clear hcz9_0 hcz9_1 hcz9_2 hcz9_3 hcz9_4 hcz9_5 hcz9_6 hcz9_7 hcz9_8 hcz9_9 hcz9_10 hcz9_11 hcz9_12 hcz9_13
   try clear hfz7_0 hfz7_1 hfz7_2 hfz7_3 hfz7_4 hfz7_5 hfz7_6 hfz7_7 hfz7_8 hfz7_9 hfz7_10 hfz7_11 hfz7_12 hfz7_13
   try clear hfz9_0 hfz9_1 hfz9_2 hfz9_3 hfz9_4 hfz9_5 hfz9_6 hfz9_7 hfz9_8 hfz9_9 hfz9_10 hfz9_11 hfz9_12 hfz9_13
   obtain ⟨B1, rfl, HA, E4, Bg, B7, B0, HB⟩ := hrel
   cases gk with
   | zero => exact absurd HA.out (by simp [premise_run_calm.l0])
   | succ k1 =>
    have H := HA.out
    clear HA
    simp only [premise_run_calm.l0] at H
    by_cases Df : B1 < (B6.length : Int)
    ·rw [if_pos Df] at H
     have Di : decide (B1 < (B6.length : Int)) = true := decide_eq_true Df
     clear Df
     by_cases Dk : 0 ≤ B1
     ·rw [if_pos Dk] at H
      have E5 : decide (0 ≤ B1) = true := decide_eq_true Dk
      clear Dk
      by_cases Dl : B1 < (B6.length : Int)
      ·rw [if_pos Dl] at H
       have E6 : decide (B1 < (B6.length : Int)) = true := decide_eq_true Dl
       clear Dl
       obtain ⟨Dv, Dw, H⟩ := bes_ H
       try dsimp only at H
       by_cases Dm : Dv = true
       subst Dm
       rw [if_pos rfl] at H
       obtain ⟨Dx, E7, H⟩ := bes_ H
       try dsimp only at H
       by_cases Dn : Dx = true
       ·subst Dn
        rw [if_pos rfl] at H
        have H' := am_ H
        clear H
        have D1 : 0 ≤ (B1 : Int) := of_decide_eq_true (by first | (with_reducible assumption) | assumption)
        have D2 : B1 < (B6.length : Int) := of_decide_eq_true (by first | (with_reducible assumption) | assumption)
        obtain ⟨Dj, De, Dd⟩ := Kd.at_int (Kd.R_reads' B7.out).2.2 B1 D1 D2
        cases De
        replace D1 := eq_true D1
        replace D2 := eq_true D2
        have E8 := cells_14 B0.out
        have E9 := frozen_14 B0.out
        go_wp2_with (first | ((with_reducible refine gate_load (t := 64) (x := .tmp 2) rfl ?_); refine lrg_ 64 (.tmp 2) Br 64 (by exact B0.out) Try.underlying64 ?_) | ((with_reducible refine gate_callee (f := 88) rfl ?_); refine gom_ (some 24) Try.func88 (premise_run_steady.calls k1 Bh Bi Bj Bk Bl Bm Bn Bo Bp Bq _ _ B2 _ _ B3 _ _ B4 _ _ B5 a1 (rd B6 B1) _ _ (Kd.C_below B8.out HB.out) B9.out (Kd.C_below Ba.out HB.out) Bb.out (Kd.C_below Bc.out HB.out) Bd.out (Kd.C_below Be.out HB.out) Bf.out Dw.out) ?_; rintro e w20 ⟨rfl, hb⟩; refine ⟨_, rfl, ?_⟩; replace Bg := am_ (Kd.R_below Bg.out hb); replace B7 := am_ (Kd.R_below B7.out hb); replace B0 := bkb_ B0 hb; replace HB := bst_ HB hb; (try clear hb); have Dy := cells_14 B0.out; have Dz := frozen_14 B0.out) | (go_at_call 89; (with_reducible refine (premise_run_swift.calls k1 Bh Bi Bj Bk Bl Bm Bn Bo Bp Bq _ _ B2 _ _ B3 _ _ B4 _ _ B5 a1 (rd B6 B1) _ _ B6 _ _ (Kd.C_below B8.out HB.out) B9.out (Kd.C_below Ba.out HB.out) Bb.out (Kd.C_below Bc.out HB.out) Bd.out (Kd.C_below Be.out HB.out) Bf.out (Kd.R_reads' Bg.out).2.2 (Kd.R_reads' Bg.out).2.1 E7.out).mono ?_); rintro e w22 ⟨rfl, hb⟩; replace Bg := am_ (Kd.R_below Bg.out hb); replace B7 := am_ (Kd.R_below B7.out hb); replace B0 := bkb_ B0 hb; replace HB := bst_ HB hb; (try clear hb)))
        go_roundg k1
        case measure => have := E4.out; omega
        case rel => exact ⟨(wrap64 (B1 + 1)), (by first | rfl | (simp; done) | (simp [*]; done)), H', ⟨by have := E4.out; omega⟩, ⟨by (with_reducible repeat (first | apply Kd.R_alloc | apply Kd.R_drewN | apply Kd.R_drew)); exact Bg.out⟩, ⟨by (with_reducible repeat (first | apply Kd.R_alloc | apply Kd.R_drewN | apply Kd.R_drew)); exact B7.out⟩, ⟨by (with_reducible repeat (first | apply kn_ | apply kd_ | apply ka_)); exact B0.out⟩, ⟨by repeat (first | (with_reducible first | exact HB.out | apply ba_ | apply bn_ | apply bd_ | refine bs_ ?_ Bs.out) | exact HB.out)⟩⟩
       replace Dn := Bool.eq_false_iff.mpr Dn
       subst Dn
       rw [if_neg (show ¬ (false = true) by decide)] at H
       obtain rfl := Option.some.inj H
       rotate_left
       replace Dm := Bool.eq_false_iff.mpr Dm
       subst Dm
       rw [if_neg (show ¬ (false = true) by decide)] at H
       obtain rfl := Option.some.inj H
       rotate_left
       all_goals
        have D1 : 0 ≤ (B1 : Int) := of_decide_eq_true (by first | (with_reducible assumption) | assumption)
        have D2 : B1 < (B6.length : Int) := of_decide_eq_true (by first | (with_reducible assumption) | assumption)
        obtain ⟨Dj, De, Dd⟩ := Kd.at_int (Kd.R_reads' B7.out).2.2 B1 D1 D2
        cases De
        replace D1 := eq_true D1
        replace D2 := eq_true D2
        have Ea := cells_14 B0.out
        have Eb := frozen_14 B0.out
       ·go_wp2_with (first | ((with_reducible refine gate_load (t := 64) (x := .tmp 2) rfl ?_); refine lrg_ 64 (.tmp 2) Br 64 (by exact B0.out) Try.underlying64 ?_) | ((with_reducible refine gate_callee (f := 88) rfl ?_); refine gom_ (some 24) Try.func88 (premise_run_steady.calls k1 Bh Bi Bj Bk Bl Bm Bn Bo Bp Bq _ _ B2 _ _ B3 _ _ B4 _ _ B5 a1 (rd B6 B1) _ _ (Kd.C_below B8.out HB.out) B9.out (Kd.C_below Ba.out HB.out) Bb.out (Kd.C_below Bc.out HB.out) Bd.out (Kd.C_below Be.out HB.out) Bf.out Dw.out) ?_; rintro e w24 ⟨rfl, hb⟩; refine ⟨_, rfl, ?_⟩; replace Bg := am_ (Kd.R_below Bg.out hb); replace B7 := am_ (Kd.R_below B7.out hb); replace B0 := bkb_ B0 hb; replace HB := bst_ HB hb; (try clear hb); have E0 := cells_14 B0.out; have E1 := frozen_14 B0.out) | (go_at_call 89; (with_reducible refine (premise_run_swift.calls k1 Bh Bi Bj Bk Bl Bm Bn Bo Bp Bq _ _ B2 _ _ B3 _ _ B4 _ _ B5 a1 (rd B6 B1) _ _ B6 _ _ (Kd.C_below B8.out HB.out) B9.out (Kd.C_below Ba.out HB.out) Bb.out (Kd.C_below Bc.out HB.out) Bd.out (Kd.C_below Be.out HB.out) Bf.out (Kd.R_reads' Bg.out).2.2 (Kd.R_reads' Bg.out).2.1 E7.out).mono ?_); rintro e w26 ⟨rfl, hb⟩; replace Bg := am_ (Kd.R_below Bg.out hb); replace B7 := am_ (Kd.R_below B7.out hb); replace B0 := bkb_ B0 hb; replace HB := bst_ HB hb; (try clear hb)))
        go_ret
        exact ⟨by first | rfl | (simp [*] <;> rfl), by repeat (first | (with_reducible first | exact HB.out | apply ba_ | apply bn_ | apply bd_ | refine bs_ ?_ Bs.out) | exact HB.out)⟩
       ·go_wp2_with (first | ((with_reducible refine gate_load (t := 64) (x := .tmp 2) rfl ?_); refine lrg_ 64 (.tmp 2) Br 64 (by exact B0.out) Try.underlying64 ?_) | ((with_reducible refine gate_callee (f := 88) rfl ?_); refine gom_ (some 24) Try.func88 (premise_run_steady.calls k1 Bh Bi Bj Bk Bl Bm Bn Bo Bp Bq _ _ B2 _ _ B3 _ _ B4 _ _ B5 a1 (rd B6 B1) _ _ (Kd.C_below B8.out HB.out) B9.out (Kd.C_below Ba.out HB.out) Bb.out (Kd.C_below Bc.out HB.out) Bd.out (Kd.C_below Be.out HB.out) Bf.out Dw.out) ?_; rintro e w28 ⟨rfl, hb⟩; refine ⟨_, rfl, ?_⟩; replace Bg := am_ (Kd.R_below Bg.out hb); replace B7 := am_ (Kd.R_below B7.out hb); replace B0 := bkb_ B0 hb; replace HB := bst_ HB hb; (try clear hb)))
        go_ret
        exact ⟨by first | rfl | (simp [*] <;> rfl), by repeat (first | (with_reducible first | exact HB.out | apply ba_ | apply bn_ | apply bd_ | refine bs_ ?_ Bs.out) | exact HB.out)⟩
      ·rw [if_neg Dl] at H
       exact absurd H (by simp)
     ·rw [if_neg Dk] at H
      exact absurd H (by simp)
    ·rw [if_neg Df] at H
     have Di : decide (B1 < (B6.length : Int)) = false := decide_eq_false Df
     clear Df
     obtain rfl := Option.some.inj H
     go_wp2
     go_ret
     exact ⟨by first | rfl | (simp [*] <;> rfl), by repeat (first | (with_reducible first | exact HB.out | apply ba_ | apply bn_ | apply bd_ | refine bs_ ?_ Bs.out) | exact HB.out)⟩
 ·replace c4 := Bool.eq_false_iff.mpr c4
  subst c4
  rw [if_neg (show ¬ (false = true) by decide)] at H
  obtain rfl := Option.some.inj H
  go_enter Try.func55, Try.ntmps55
  go_wp2_with (first | ((with_reducible refine gate_load (t := 64) (x := .tmp 2) rfl ?_); refine lrg_ 64 (.tmp 2) Br 64 (by exact B0.out) Try.underlying64 ?_) | ((with_reducible refine gate_dst (N := 2) rfl ?_); refine bxe_ 2 64 #[.int .i64 Bh, .int .i64 Bi, .int .i64 Bj, .int .i64 Bk, .int .i64 Bl, .int .i64 Bm, .int .i64 Bn, .int .i64 Bo, .int .i64 Bp, .int .i64 Bq, .slice Bt B2.length Bu, .slice Bv B3.length Bw, .slice Bx B4.length By, .slice Bz B5.length D0] ?_; intro Br hg w29 hbox hb; have B0 := am_ (hbox); have Db := gwk_ HB hg; have Bs := Db; replace HB := bst_ HB hb; clear hb hbox hg; have E2 := cells_14 B0.out; have Do := frozen_14 B0.out) | ((with_reducible refine gate_callee (f := 87) rfl ?_); refine gom_ (some 10) Try.func87 (premise_run_quiet.calls Bh Bi Bj Bk Bl Bm Bn Bo Bp Bq _ _ B2 _ _ B3 _ _ B4 _ _ B5 a1 _ _ (Kd.C_below B8.out HB.out) B9.out (Kd.C_below Ba.out HB.out) Bb.out (Kd.C_below Bc.out HB.out) Bd.out (Kd.C_below Be.out HB.out) Bf.out A3.out) ?_; rintro e w31 ⟨rfl, hb⟩; refine ⟨_, rfl, ?_⟩; replace B0 := bkb_ B0 hb; replace HB := bst_ HB hb; (try clear hb)))
  go_ret
  exact ⟨by first | rfl | (simp [*] <;> rfl), by repeat (first | (with_reducible first | exact HB.out | apply ba_ | apply bn_ | apply bd_ | refine bs_ ?_ Bs.out) | exact HB.out)⟩
def premise_Calm.f (k : Nat) (B2 B3 B4 B5 B6 B7 B8 B9 Ba Bb : Int) (B0 Bc : List Int) (Bd : List ByteArray) (B1 : List (S44)) (a1 : Int) : Option (Bool) := if a1 < 0 then (some false) else (if a1 ≥ (B1.length : Int) then (some false) else ((conf_Plain.f k B2 B3 B4 B5 B6 B7 B8 B9 Ba Bb B0).bind fun Be => (if Be = 0 then ((premise_run_calm.f k B2 B3 B4 B5 B6 B7 B8 B9 Ba Bb B0 Bc Bd B1 a1).bind fun Bf => (some Bf)) else (some false))))
theorem premise_Calm.mono : ∀ a0 a1 a2 a3 a4 a5 a6 a7 a8 a9 B0 B1 B2 B3 B4 k, LeO (premise_Calm.f k a0 a1 a2 a3 a4 a5 a6 a7 a8 a9 B0 B1 B2 B3 B4) (premise_Calm.f (k + 1) a0 a1 a2 a3 a4 a5 a6 a7 a8 a9 B0 B1 B2 B3 B4) := by
 intro a0 a1 a2 a3 a4 a5 a6 a7 a8 a9 B0 B1 B2 B3 B4 k
 unfold premise_Calm.f
 repeat' first
   | (with_reducible exact conf_Plain.mono _ _ _ _ _ _ _ _ _ _ _ _)
   | (with_reducible exact premise_run_calm.mono _ _ _ _ _ _ _ _ _ _ _ _ _ _ _ _)
   | (with_reducible exact LeO.refl _)
   | (with_reducible exact LeO.none _)
   | (with_reducible refine LeO.ite ?_ ?_)
   | (with_reducible refine LeO.bind ?_ (fun _ => ?_))
   | exact conf_Plain.mono _ _ _ _ _ _ _ _ _ _ _ _
   | exact premise_run_calm.mono _ _ _ _ _ _ _ _ _ _ _ _ _ _ _ _
   | exact LeO.none _
   | refine LeO.ite ?_ ?_
   | refine LeO.bind ?_ (fun _ => ?_)
set_option maxHeartbeats 8000000 in
set_option maxRecDepth 100000 in
theorem premise_Calm.calls (k : Nat) (Bg Bh Bi Bj Bk Bl Bm Bn Bo Bp : Int) (B8 : Option Addr) (B9 : Nat) (B2 : List Int) (Ba : Option Addr) (Bb : Nat) (B3 : List Int) (Bc : Option Addr) (Bd : Nat) (B4 : List ByteArray) (Be : Option Addr) (Bf : Nat) (B1 : List (S44)) (a1 : Int) (r : Bool) (w : World) (Bs : Kd.C (Kd.int .i64) w B8 B2.length B2) (Bt : B2.length ≤ B9) (Bu : Kd.C (Kd.int .i64) w Ba B3.length B3) (Bv : B3.length ≤ Bb) (Bw : Kd.C Kd.string w Bc B4.length B4) (Bx : B4.length ≤ Bd) (By : Kd.C k44 w Be B1.length B1) (Bz : B1.length ≤ Bf) (h : premise_Calm.f k Bg Bh Bi Bj Bk Bl Bm Bn Bo Bp B2 B3 B4 B1 a1 = some r) :
  Calls Try.prog 28 #[.agg #[.int .i64 Bg, .int .i64 Bh, .int .i64 Bi, .int .i64 Bj, .int .i64 Bk, .int .i64 Bl, .int .i64 Bm, .int .i64 Bn, .int .i64 Bo, .int .i64 Bp, .slice B8 B2.length B9, .slice Ba B3.length Bb, .slice Bc B4.length Bd, .slice Be B1.length Bf], .int .i64 a1] w fun e w' => e = .returned (.bool r) ∧ Below w.heap.size w w' := by
 have Dl := Try.underlying24
 have Dm := Try.underlying64
 have Bq := am_ Bs
 have Br := am_ Bt
 clear Bs Bt
 have D1 := am_ Bu
 have D2 := am_ Bv
 clear Bu Bv
 have D3 := am_ Bw
 have D4 := am_ Bx
 clear Bw Bx
 have D5 := am_ By
 have D6 := am_ Bz
 clear By Bz
 have HB := am_ (Below.refl w.heap.size w)
 have H := h
 unfold premise_Calm.f at H
 clear h
 by_cases c3 : a1 < 0
 ·rw [if_pos c3] at H
  have D8 : decide (a1 < 0) = true := decide_eq_true c3
  clear c3
  obtain rfl := Option.some.inj H
  go_enter Try.func28, Try.ntmps28
  go_wp2_with (first | ((with_reducible refine gate_load (t := 28) (x := .tmp 2) rfl ?_); refine lrg_ 28 (.tmp 2) B5 28 (by exact B0.out) Try.underlying28 ?_) | ((with_reducible refine gate_dst (N := 2) rfl ?_); (try (refine gate_guard (by rfl) ?_; dsimp only)); refine bxe_ 2 28 #[.int .i64 Bg, .int .i64 Bh, .int .i64 Bi, .int .i64 Bj, .int .i64 Bk, .int .i64 Bl, .int .i64 Bm, .int .i64 Bn, .int .i64 Bo, .int .i64 Bp, .slice B8 B2.length B9, .slice Ba B3.length Bb, .slice Bc B4.length Bd, .slice Be B1.length Bf] ?_; intro B5 hg w4 hbox hb; have B0 := am_ (hbox); have B6 := gwk_ HB hg; have B7 := B6; replace HB := bst_ HB hb; clear hb hbox hg))
  go_ret
  exact ⟨by first | rfl | (simp [*] <;> rfl), by repeat (first | (with_reducible first | exact HB.out | apply ba_ | apply bn_ | apply bd_ | refine bs_ ?_ B7.out) | exact HB.out)⟩
 ·rw [if_neg c3] at H
  have D8 : decide (a1 < 0) = false := decide_eq_false c3
  clear c3
  by_cases c5 : a1 ≥ (B1.length : Int)
  ·rw [if_pos c5] at H
   have D9 : decide ((B1.length : Int) ≤ a1) = true := decide_eq_true c5
   clear c5
   obtain rfl := Option.some.inj H
   go_enter Try.func28, Try.ntmps28
   go_wp2_with (first | ((with_reducible refine gate_load (t := 28) (x := .tmp 2) rfl ?_); refine lrg_ 28 (.tmp 2) B5 28 (by exact B0.out) Try.underlying28 ?_) | ((with_reducible refine gate_dst (N := 2) rfl ?_); (try (refine gate_guard (by rfl) ?_; dsimp only)); refine bxe_ 2 28 #[.int .i64 Bg, .int .i64 Bh, .int .i64 Bi, .int .i64 Bj, .int .i64 Bk, .int .i64 Bl, .int .i64 Bm, .int .i64 Bn, .int .i64 Bo, .int .i64 Bp, .slice B8 B2.length B9, .slice Ba B3.length Bb, .slice Bc B4.length Bd, .slice Be B1.length Bf] ?_; intro B5 hg w6 hbox hb; have B0 := am_ (hbox); have B6 := gwk_ HB hg; have B7 := B6; replace HB := bst_ HB hb; clear hb hbox hg; have Da := cells_14 B0.out; have Db := frozen_14 B0.out))
   go_ret
   exact ⟨by first | rfl | (simp [*] <;> rfl), by repeat (first | (with_reducible first | exact HB.out | apply ba_ | apply bn_ | apply bd_ | refine bs_ ?_ B7.out) | exact HB.out)⟩
  ·rw [if_neg c5] at H
   have D9 : decide ((B1.length : Int) ≤ a1) = false := decide_eq_false c5
   clear c5
   obtain ⟨D0, A8, H⟩ := bes_ H
   try dsimp only at H
   by_cases c9 : D0 = 0
   ·rw [if_pos c9] at H
    have Dc : (D0 == 0) = true := beq_iff_eq.mpr c9
    have Dd : (D0 != 0) = false := bne_eq_false_iff_eq.mpr c9
    clear c9
    replace H := Option.bind_eq_some_iff.mp H
    obtain ⟨De, D7, H⟩ := H
    replace H : (some De) = some r := H
    have Dn := am_ D7
    clear D7
    obtain rfl := Option.some.inj H
    go_enter Try.func28, Try.ntmps28
    go_wp2_with (first | ((with_reducible refine gate_load (t := 28) (x := .tmp 2) rfl ?_); refine lrg_ 28 (.tmp 2) B5 28 (by exact B0.out) Try.underlying28 ?_) | ((with_reducible refine gate_dst (N := 2) rfl ?_); (try (refine gate_guard (by rfl) ?_; dsimp only)); refine bxe_ 2 28 #[.int .i64 Bg, .int .i64 Bh, .int .i64 Bi, .int .i64 Bj, .int .i64 Bk, .int .i64 Bl, .int .i64 Bm, .int .i64 Bn, .int .i64 Bo, .int .i64 Bp, .slice B8 B2.length B9, .slice Ba B3.length Bb, .slice Bc B4.length Bd, .slice Be B1.length Bf] ?_; intro B5 hg w11 hbox hb; have B0 := am_ (hbox); have B6 := gwk_ HB hg; have B7 := B6; replace HB := bst_ HB hb; clear hb hbox hg; have Df := cells_14 B0.out; have Dg := frozen_14 B0.out) | (go_at_call 54; (with_reducible refine (conf_Plain.calls k Bg Bh Bi Bj Bk Bl Bm Bn Bo Bp _ _ B2 _ _ (Kd.C_below Bq.out HB.out) Br.out A8.out).mono ?_); rintro e w13 ⟨rfl, hb⟩; replace B0 := bkb_ B0 hb; replace HB := bst_ HB hb; (try clear hb); have Dh := cells_14 B0.out; have Di := frozen_14 B0.out) | ((with_reducible refine gate_callee (f := 55) rfl ?_); refine gom_ (some 23) Try.func55 (premise_run_calm.calls k Bg Bh Bi Bj Bk Bl Bm Bn Bo Bp _ _ B2 _ _ B3 _ _ B4 _ _ B1 a1 _ _ (Kd.C_below Bq.out HB.out) Br.out (Kd.C_below D1.out HB.out) D2.out (Kd.C_below D3.out HB.out) D4.out (Kd.C_below D5.out HB.out) D6.out Dn.out) ?_; rintro e w15 ⟨rfl, hb⟩; refine ⟨_, rfl, ?_⟩; replace B0 := bkb_ B0 hb; replace HB := bst_ HB hb; (try clear hb)))
    go_ret
    exact ⟨by first | rfl | (simp [*] <;> rfl), by repeat (first | (with_reducible first | exact HB.out | apply ba_ | apply bn_ | apply bd_ | refine bs_ ?_ B7.out) | exact HB.out)⟩
   ·rw [if_neg c9] at H
    have Dc : (D0 == 0) = false := beq_eq_false_iff_ne.mpr c9
    have Dd : (D0 != 0) = true := bne_iff_ne.mpr c9
    obtain rfl := Option.some.inj H
    go_enter Try.func28, Try.ntmps28
    go_wp2_with (first | ((with_reducible refine gate_load (t := 28) (x := .tmp 2) rfl ?_); refine lrg_ 28 (.tmp 2) B5 28 (by exact B0.out) Try.underlying28 ?_) | ((with_reducible refine gate_dst (N := 2) rfl ?_); (try (refine gate_guard (by rfl) ?_; dsimp only)); refine bxe_ 2 28 #[.int .i64 Bg, .int .i64 Bh, .int .i64 Bi, .int .i64 Bj, .int .i64 Bk, .int .i64 Bl, .int .i64 Bm, .int .i64 Bn, .int .i64 Bo, .int .i64 Bp, .slice B8 B2.length B9, .slice Ba B3.length Bb, .slice Bc B4.length Bd, .slice Be B1.length Bf] ?_; intro B5 hg w16 hbox hb; have B0 := am_ (hbox); have B6 := gwk_ HB hg; have B7 := B6; replace HB := bst_ HB hb; clear hb hbox hg; have Dj := cells_14 B0.out; have Dk := frozen_14 B0.out) | (go_at_call 54; (with_reducible refine (conf_Plain.calls k Bg Bh Bi Bj Bk Bl Bm Bn Bo Bp _ _ B2 _ _ (Kd.C_below Bq.out HB.out) Br.out A8.out).mono ?_); rintro e w18 ⟨rfl, hb⟩; replace B0 := bkb_ B0 hb; replace HB := bst_ HB hb; (try clear hb)))
    go_ret
    exact ⟨by first | rfl | (simp [*] <;> rfl), by repeat (first | (with_reducible first | exact HB.out | apply ba_ | apply bn_ | apply bd_ | refine bs_ ?_ B7.out) | exact HB.out)⟩
def premise_run_last.l0 : Nat → Int → Int → Int → Int → Int → Int → Int → Int → Int → Int → Int → List Int → List Int → List ByteArray → List (S44) → Option (Int)
 | 0, _, _, _, _, _, _, _, _, _, _, _, _, _, _, _ => none
 | k + 1, x3, B0, B1, B2, B3, B4, B5, B6, B7, B8, B9, Ba, Bb, Bc, Bd => if x3 ≥ 0 then ((premise_run_calm.f k B0 B1 B2 B3 B4 B5 B6 B7 B8 B9 Ba Bb Bc Bd x3).bind fun Be => (if Be = true then (premise_run_last.l0 k (wrap64 (x3 - 1)) B0 B1 B2 B3 B4 B5 B6 B7 B8 B9 Ba Bb Bc Bd) else (some x3))) else (some x3)
def premise_run_last.f (k : Nat) (B4 B5 B6 B7 B8 B9 Ba Bb Bc Bd : Int) (B1 B2 : List Int) (B3 : List ByteArray) (B0 : List (S44)) : Option (Int) := premise_run_last.l0 k (wrap64 ((B0.length : Int) - 1)) B4 B5 B6 B7 B8 B9 Ba Bb Bc Bd B1 B2 B3 B0
theorem premise_run_last.mono_l : ∀ k, (∀ y0 y1 y2 y3 y4 y5 y6 y7 y8 y9 B0 B1 B2 B3 B4, LeO (premise_run_last.l0 k y0 y1 y2 y3 y4 y5 y6 y7 y8 y9 B0 B1 B2 B3 B4) (premise_run_last.l0 (k + 1) y0 y1 y2 y3 y4 y5 y6 y7 y8 y9 B0 B1 B2 B3 B4))
 | 0 => fun _ _ _ _ _ _ _ _ _ _ _ _ _ _ _ r h => by simp [premise_run_last.l0] at h
 | k + 1 => by
  have B5 := premise_run_last.mono_l k
  ·intro y0 y1 y2 y3 y4 y5 y6 y7 y8 y9 B0 B1 B2 B3 B4
   unfold premise_run_last.l0
   repeat' first
   | (with_reducible exact B5 _ _ _ _ _ _ _ _ _ _ _ _ _ _ _)
   | (with_reducible exact premise_run_calm.mono _ _ _ _ _ _ _ _ _ _ _ _ _ _ _ _)
   | (with_reducible exact LeO.refl _)
   | (with_reducible exact LeO.none _)
   | (with_reducible refine LeO.ite ?_ ?_)
   | (with_reducible refine LeO.bind ?_ (fun _ => ?_))
   | exact B5 _ _ _ _ _ _ _ _ _ _ _ _ _ _ _
   | exact premise_run_calm.mono _ _ _ _ _ _ _ _ _ _ _ _ _ _ _ _
   | exact LeO.none _
   | refine LeO.ite ?_ ?_
   | refine LeO.bind ?_ (fun _ => ?_)
theorem premise_run_last.mono : ∀ a0 a1 a2 a3 a4 a5 a6 a7 a8 a9 B0 B1 B2 B3 k, LeO (premise_run_last.f k a0 a1 a2 a3 a4 a5 a6 a7 a8 a9 B0 B1 B2 B3) (premise_run_last.f (k + 1) a0 a1 a2 a3 a4 a5 a6 a7 a8 a9 B0 B1 B2 B3) := by
 intro a0 a1 a2 a3 a4 a5 a6 a7 a8 a9 B0 B1 B2 B3 k
 have B4 := premise_run_last.mono_l k
 unfold premise_run_last.f
 repeat' first
   | (with_reducible exact B4 _ _ _ _ _ _ _ _ _ _ _ _ _ _ _)
   | (with_reducible exact premise_run_calm.mono _ _ _ _ _ _ _ _ _ _ _ _ _ _ _ _)
   | (with_reducible exact LeO.refl _)
   | (with_reducible exact LeO.none _)
   | (with_reducible refine LeO.ite ?_ ?_)
   | (with_reducible refine LeO.bind ?_ (fun _ => ?_))
   | exact B4 _ _ _ _ _ _ _ _ _ _ _ _ _ _ _
   | exact premise_run_calm.mono _ _ _ _ _ _ _ _ _ _ _ _ _ _ _ _
   | exact LeO.none _
   | refine LeO.ite ?_ ?_
   | refine LeO.bind ?_ (fun _ => ?_)
set_option maxHeartbeats 8000000 in
set_option maxRecDepth 100000 in
theorem premise_run_last.calls (k : Nat) (B6 B7 B8 B9 Ba Bb Bc Bd Be Bf : Int) (Bg : Option Addr) (Bh : Nat) (B2 : List Int) (Bi : Option Addr) (Bj : Nat) (B3 : List Int) (Bk : Option Addr) (Bl : Nat) (B4 : List ByteArray) (Bm : Option Addr) (Bn : Nat) (B1 : List (S44)) (r : Int) (w : World) (Bq : Kd.C (Kd.int .i64) w Bg B2.length B2) (Br : B2.length ≤ Bh) (Bs : Kd.C (Kd.int .i64) w Bi B3.length B3) (Bt : B3.length ≤ Bj) (Bu : Kd.C Kd.string w Bk B4.length B4) (Bv : B4.length ≤ Bl) (Bw : Kd.C k44 w Bm B1.length B1) (Bx : B1.length ≤ Bn) (h : premise_run_last.f k B6 B7 B8 B9 Ba Bb Bc Bd Be Bf B2 B3 B4 B1 = some r) :
  Calls Try.prog 57 #[.agg #[.int .i64 B6, .int .i64 B7, .int .i64 B8, .int .i64 B9, .int .i64 Ba, .int .i64 Bb, .int .i64 Bc, .int .i64 Bd, .int .i64 Be, .int .i64 Bf, .slice Bg B2.length Bh, .slice Bi B3.length Bj, .slice Bk B4.length Bl, .slice Bm B1.length Bn]] w fun e w' => e = .returned (.int .i64 r) ∧ Below w.heap.size w w' := by
 have By := am_ Bq
 have Bz := am_ Br
 clear Bq Br
 have D0 := am_ Bs
 have D1 := am_ Bt
 clear Bs Bt
 have D2 := am_ Bu
 have D3 := am_ Bv
 clear Bu Bv
 have D4 := am_ Bw
 have D5 := am_ Bx
 clear Bw Bx
 have HB := am_ (Below.refl w.heap.size w)
 have H := h
 unfold premise_run_last.f at H
 clear h
 have H' := am_ H
 clear H
 go_enter Try.func57, Try.ntmps57
 go_wp2_with (first | ((with_reducible refine gate_load (t := 64) (x := .tmp 1) rfl ?_); refine lrg_ 64 (.tmp 1) Bo 64 (by exact B0.out) Try.underlying64 ?_) | ((with_reducible refine gate_dst (N := 1) rfl ?_); refine bxe_ 1 64 #[.int .i64 B6, .int .i64 B7, .int .i64 B8, .int .i64 B9, .int .i64 Ba, .int .i64 Bb, .int .i64 Bc, .int .i64 Bd, .int .i64 Be, .int .i64 Bf, .slice Bg B2.length Bh, .slice Bi B3.length Bj, .slice Bk B4.length Bl, .slice Bm B1.length Bn] ?_; intro Bo hg w2 hbox hb; have B0 := am_ (hbox); have D6 := gwk_ HB hg; have Bp := D6; replace HB := bst_ HB hb; clear hb hbox hg; have D7 := cells_14 B0.out; have D8 := frozen_14 B0.out))
 go_loopg [3] k (fun kq v3 w' => ∃ (B5 : Int), v3 = .int .i64 B5 ∧ Aside0 (premise_run_last.l0 kq B5 B6 B7 B8 B9 Ba Bb Bc Bd Be Bf B2 B3 B4 B1 = some r) ∧ Aside0 (kq ≤ k) ∧ Aside0 (w'.heap[Bo]? = some (.cells #[.int .i64 B6, .int .i64 B7, .int .i64 B8, .int .i64 B9, .int .i64 Ba, .int .i64 Bb, .int .i64 Bc, .int .i64 Bd, .int .i64 Be, .int .i64 Bf, (.slice Bg B2.length Bh), (.slice Bi B3.length Bj), (.slice Bk B4.length Bl), (.slice Bm B1.length Bn)] 64 (0, 0))) ∧ Aside0 (Below w.heap.size w w'))
 case atStart => exact ⟨(wrap64 ((B1.length : Int) - 1)), (by first | rfl | (simp; done) | (simp [*]; done)), H', ⟨Nat.le_refl _⟩, ⟨by (with_reducible repeat (first | apply kn_ | apply kd_ | apply ka_)); exact B0.out⟩, ⟨by repeat (first | (with_reducible first | exact HB.out | apply ba_ | apply bn_ | apply bd_ | refine bs_ ?_ Bp.out) | exact HB.out)⟩⟩
 case round =>
  clear H'
  try clear p2
  try clear hcz3_0 hcz3_1 hcz3_2 hcz3_3 hcz3_4 hcz3_5 hcz3_6 hcz3_7 hcz3_8 hcz3_9 hcz3_10 hcz3_11 hcz3_12 hcz3_13
  try clear hfz3_0 hfz3_1 hfz3_2 hfz3_3 hfz3_4 hfz3_5 hfz3_6 hfz3_7 hfz3_8 hfz3_9 hfz3_10 hfz3_11 hfz3_12 hfz3_13
  obtain ⟨B5, rfl, HA, Db, B0, HB⟩ := hrel
  cases gk with
  | zero => exact absurd HA.out (by simp [premise_run_last.l0])
  | succ k1 =>
   have H := HA.out
   clear HA
   simp only [premise_run_last.l0] at H
   by_cases c4 : B5 ≥ 0
   ·rw [if_pos c4] at H
    have D9 : decide (0 ≤ B5) = true := decide_eq_true c4
    clear c4
    obtain ⟨Da, A5, H⟩ := bes_ H
    try dsimp only at H
    by_cases c6 : Da = true
    ·subst c6
     rw [if_pos rfl] at H
     have H' := am_ H
     clear H
     have Dc := cells_14 B0.out
     have Dd := frozen_14 B0.out
     go_wp2_with (first | ((with_reducible refine gate_load (t := 64) (x := .tmp 1) rfl ?_); refine lrg_ 64 (.tmp 1) Bo 64 (by exact B0.out) Try.underlying64 ?_) | (go_at_call 55; (with_reducible refine (premise_run_calm.calls k1 B6 B7 B8 B9 Ba Bb Bc Bd Be Bf _ _ B2 _ _ B3 _ _ B4 _ _ B1 B5 _ _ (Kd.C_below By.out HB.out) Bz.out (Kd.C_below D0.out HB.out) D1.out (Kd.C_below D2.out HB.out) D3.out (Kd.C_below D4.out HB.out) D5.out A5.out).mono ?_); rintro e w8 ⟨rfl, hb⟩; replace B0 := bkb_ B0 hb; replace HB := bst_ HB hb; (try clear hb)))
     go_roundg k1
     case measure => have := Db.out; omega
     case rel => exact ⟨(wrap64 (B5 - 1)), (by first | rfl | (simp; done) | (simp [*]; done)), H', ⟨by have := Db.out; omega⟩, ⟨by (with_reducible repeat (first | apply kn_ | apply kd_ | apply ka_)); exact B0.out⟩, ⟨by repeat (first | (with_reducible first | exact HB.out | apply ba_ | apply bn_ | apply bd_ | refine bs_ ?_ Bp.out) | exact HB.out)⟩⟩
    ·replace c6 := Bool.eq_false_iff.mpr c6
     subst c6
     rw [if_neg (show ¬ (false = true) by decide)] at H
     obtain rfl := Option.some.inj H
     have De := cells_14 B0.out
     have Df := frozen_14 B0.out
     go_wp2_with (first | ((with_reducible refine gate_load (t := 64) (x := .tmp 1) rfl ?_); refine lrg_ 64 (.tmp 1) Bo 64 (by exact B0.out) Try.underlying64 ?_) | (go_at_call 55; (with_reducible refine (premise_run_calm.calls k1 B6 B7 B8 B9 Ba Bb Bc Bd Be Bf _ _ B2 _ _ B3 _ _ B4 _ _ B1 B5 _ _ (Kd.C_below By.out HB.out) Bz.out (Kd.C_below D0.out HB.out) D1.out (Kd.C_below D2.out HB.out) D3.out (Kd.C_below D4.out HB.out) D5.out A5.out).mono ?_); rintro e w10 ⟨rfl, hb⟩; replace B0 := bkb_ B0 hb; replace HB := bst_ HB hb; (try clear hb)))
     go_ret
     exact ⟨by first | rfl | (simp [*] <;> rfl), by repeat (first | (with_reducible first | exact HB.out | apply ba_ | apply bn_ | apply bd_ | refine bs_ ?_ Bp.out) | exact HB.out)⟩
   ·rw [if_neg c4] at H
    have D9 : decide (0 ≤ B5) = false := decide_eq_false c4
    clear c4
    obtain rfl := Option.some.inj H
    go_wp2
    go_ret
    exact ⟨by first | rfl | (simp [*] <;> rfl), by repeat (first | (with_reducible first | exact HB.out | apply ba_ | apply bn_ | apply bd_ | refine bs_ ?_ Bp.out) | exact HB.out)⟩
def premise_Last.f (k : Nat) (B4 B5 B6 B7 B8 B9 Ba Bb Bc Bd : Int) (B0 B1 : List Int) (B2 : List ByteArray) (B3 : List (S44)) : Option (Int) := (script_Right.f k B4 B5 B6 B7 B8 B9 Ba Bb Bc Bd B0 B1 B2 B3).bind fun Be => (if Be = 0 then ((premise_run_last.f k B4 B5 B6 B7 B8 B9 Ba Bb Bc Bd B0 B1 B2 B3).bind fun Bf => (some Bf)) else (some (-1)))
theorem premise_Last.mono : ∀ a0 a1 a2 a3 a4 a5 a6 a7 a8 a9 B0 B1 B2 B3 k, LeO (premise_Last.f k a0 a1 a2 a3 a4 a5 a6 a7 a8 a9 B0 B1 B2 B3) (premise_Last.f (k + 1) a0 a1 a2 a3 a4 a5 a6 a7 a8 a9 B0 B1 B2 B3) := by
 intro a0 a1 a2 a3 a4 a5 a6 a7 a8 a9 B0 B1 B2 B3 k
 unfold premise_Last.f
 repeat' first
   | (with_reducible exact premise_run_last.mono _ _ _ _ _ _ _ _ _ _ _ _ _ _ _)
   | (with_reducible exact script_Right.mono _ _ _ _ _ _ _ _ _ _ _ _ _ _ _)
   | (with_reducible exact LeO.refl _)
   | (with_reducible exact LeO.none _)
   | (with_reducible refine LeO.ite ?_ ?_)
   | (with_reducible refine LeO.bind ?_ (fun _ => ?_))
   | exact premise_run_last.mono _ _ _ _ _ _ _ _ _ _ _ _ _ _ _
   | exact script_Right.mono _ _ _ _ _ _ _ _ _ _ _ _ _ _ _
   | exact LeO.none _
   | refine LeO.ite ?_ ?_
   | refine LeO.bind ?_ (fun _ => ?_)
set_option maxHeartbeats 8000000 in
set_option maxRecDepth 100000 in
theorem premise_Last.calls (k : Nat) (B5 B6 B7 B8 B9 Ba Bb Bc Bd Be : Int) (Bn : Option Addr) (Bo : Nat) (B1 : List Int) (Bp : Option Addr) (Bq : Nat) (B2 : List Int) (Br : Option Addr) (Bs : Nat) (B3 : List ByteArray) (Bt : Option Addr) (Bu : Nat) (B4 : List (S44)) (r : Int) (w : World) (Bv : Kd.C (Kd.int .i64) w Bn B1.length B1) (Bw : B1.length ≤ Bo) (Bx : Kd.C (Kd.int .i64) w Bp B2.length B2) (By : B2.length ≤ Bq) (Bz : Kd.C Kd.string w Br B3.length B3) (D0 : B3.length ≤ Bs) (D1 : Kd.C k44 w Bt B4.length B4) (D2 : B4.length ≤ Bu) (h : premise_Last.f k B5 B6 B7 B8 B9 Ba Bb Bc Bd Be B1 B2 B3 B4 = some r) :
  Calls Try.prog 30 #[.agg #[.int .i64 B5, .int .i64 B6, .int .i64 B7, .int .i64 B8, .int .i64 B9, .int .i64 Ba, .int .i64 Bb, .int .i64 Bc, .int .i64 Bd, .int .i64 Be, .slice Bn B1.length Bo, .slice Bp B2.length Bq, .slice Br B3.length Bs, .slice Bt B4.length Bu]] w fun e w' => e = .returned (.int .i64 r) ∧ Below w.heap.size w w' := by
 have Dh := Try.underlying64
 have Bf := am_ Bv
 have Bg := am_ Bw
 clear Bv Bw
 have Bh := am_ Bx
 have Bi := am_ By
 clear Bx By
 have Bj := am_ Bz
 have Bk := am_ D0
 clear Bz D0
 have Bl := am_ D1
 have Bm := am_ D2
 clear D1 D2
 have HB := am_ (Below.refl w.heap.size w)
 have H := h
 unfold premise_Last.f at H
 clear h
 obtain ⟨D3, A2, H⟩ := bes_ H
 try dsimp only at H
 by_cases c3 : D3 = 0
 ·rw [if_pos c3] at H
  have D7 : (D3 == 0) = true := beq_iff_eq.mpr c3
  have D8 : (D3 != 0) = false := bne_eq_false_iff_eq.mpr c3
  clear c3
  replace H := Option.bind_eq_some_iff.mp H
  obtain ⟨D9, Dg, H⟩ := H
  replace H : (some D9) = some r := H
  have A4 := am_ Dg
  clear Dg
  obtain rfl := Option.some.inj H
  go_enter Try.func30, Try.ntmps30
  go_wp2_with (first | ((with_reducible refine gate_load (t := 28) (x := .tmp 1) rfl ?_); refine lrg_ 28 (.tmp 1) D4 28 (by exact B0.out) Try.underlying28 ?_) | ((with_reducible refine gate_dst (N := 1) rfl ?_); refine bxe_ 1 28 #[.int .i64 B5, .int .i64 B6, .int .i64 B7, .int .i64 B8, .int .i64 B9, .int .i64 Ba, .int .i64 Bb, .int .i64 Bc, .int .i64 Bd, .int .i64 Be, .slice Bn B1.length Bo, .slice Bp B2.length Bq, .slice Br B3.length Bs, .slice Bt B4.length Bu] ?_; intro D4 hg w5 hbox hb; have B0 := am_ (hbox); have D5 := gwk_ HB hg; have D6 := D5; replace HB := bst_ HB hb; clear hb hbox hg; have Da := cells_14 B0.out; have Db := frozen_14 B0.out) | ((with_reducible refine gate_callee (f := 12) rfl ?_); refine gom_ (some 4) Try.func12 (script_Right.calls k B5 B6 B7 B8 B9 Ba Bb Bc Bd Be _ _ B1 _ _ B2 _ _ B3 _ _ B4 _ _ (Kd.C_below Bf.out HB.out) Bg.out (Kd.C_below Bh.out HB.out) Bi.out (Kd.C_below Bj.out HB.out) Bk.out (Kd.C_below Bl.out HB.out) Bm.out A2.out) ?_; rintro e w7 ⟨rfl, hb⟩; refine ⟨_, rfl, ?_⟩; replace B0 := bkb_ B0 hb; replace HB := bst_ HB hb; (try clear hb); have Dc := cells_14 B0.out; have Dd := frozen_14 B0.out) | ((with_reducible refine gate_callee (f := 57) rfl ?_); refine gom_ (some 8) Try.func57 (premise_run_last.calls k B5 B6 B7 B8 B9 Ba Bb Bc Bd Be _ _ B1 _ _ B2 _ _ B3 _ _ B4 _ _ (Kd.C_below Bf.out HB.out) Bg.out (Kd.C_below Bh.out HB.out) Bi.out (Kd.C_below Bj.out HB.out) Bk.out (Kd.C_below Bl.out HB.out) Bm.out A4.out) ?_; rintro e w9 ⟨rfl, hb⟩; refine ⟨_, rfl, ?_⟩; replace B0 := bkb_ B0 hb; replace HB := bst_ HB hb; (try clear hb)))
  go_ret
  exact ⟨by first | rfl | (simp [*] <;> rfl), by repeat (first | (with_reducible first | exact HB.out | apply ba_ | apply bn_ | apply bd_ | refine bs_ ?_ D6.out) | exact HB.out)⟩
 ·rw [if_neg c3] at H
  have D7 : (D3 == 0) = false := beq_eq_false_iff_ne.mpr c3
  have D8 : (D3 != 0) = true := bne_iff_ne.mpr c3
  obtain rfl := Option.some.inj H
  go_enter Try.func30, Try.ntmps30
  go_wp2_with (first | ((with_reducible refine gate_load (t := 28) (x := .tmp 1) rfl ?_); refine lrg_ 28 (.tmp 1) D4 28 (by exact B0.out) Try.underlying28 ?_) | ((with_reducible refine gate_dst (N := 1) rfl ?_); refine bxe_ 1 28 #[.int .i64 B5, .int .i64 B6, .int .i64 B7, .int .i64 B8, .int .i64 B9, .int .i64 Ba, .int .i64 Bb, .int .i64 Bc, .int .i64 Bd, .int .i64 Be, .slice Bn B1.length Bo, .slice Bp B2.length Bq, .slice Br B3.length Bs, .slice Bt B4.length Bu] ?_; intro D4 hg w10 hbox hb; have B0 := am_ (hbox); have D5 := gwk_ HB hg; have D6 := D5; replace HB := bst_ HB hb; clear hb hbox hg; have De := cells_14 B0.out; have Df := frozen_14 B0.out) | ((with_reducible refine gate_callee (f := 12) rfl ?_); refine gom_ (some 4) Try.func12 (script_Right.calls k B5 B6 B7 B8 B9 Ba Bb Bc Bd Be _ _ B1 _ _ B2 _ _ B3 _ _ B4 _ _ (Kd.C_below Bf.out HB.out) Bg.out (Kd.C_below Bh.out HB.out) Bi.out (Kd.C_below Bj.out HB.out) Bk.out (Kd.C_below Bl.out HB.out) Bm.out A2.out) ?_; rintro e w12 ⟨rfl, hb⟩; refine ⟨_, rfl, ?_⟩; replace B0 := bkb_ B0 hb; replace HB := bst_ HB hb; (try clear hb)))
  go_ret
  exact ⟨by first | rfl | (simp [*] <;> rfl), by repeat (first | (with_reducible first | exact HB.out | apply ba_ | apply bn_ | apply bd_ | refine bs_ ?_ D6.out) | exact HB.out)⟩
end Go.Proofs.Ythdoghhmooodjaa.Gn
