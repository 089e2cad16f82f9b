import Derived.Test.YthdoghhmooodjaaZPremiseAfterGn0
import Derived.Test.YthdoghhmooodjaaZPremiseAfterGn1
namespace Go.Proofs.Ythdoghhmooodjaa.Gn
open Go.RowKit Go.Proofs.YthdoghhmooodjaaW.PrintWords Go.Proofs.YthdoghhmooodjaaW.PrintLast Go.Proofs.YthdoghhmooodjaaW.PrintMore
attribute [local go_sem] max2_int min2_int max_two min_two max_three min_three max_four min_four   -- for this text's walks alone
set_option linter.unusedVariables false
set_option linter.unusedSimpArgs false
def r33_within.l0 : Nat → List Int → Int → Option (Bool)
 | 0, _, _ => none
 | k + 1, x0, x5 => if x5 < (x0.length : Int) then (if 0 ≤ x5 then (if (rd x0 x5) < 0 then (some false) else (if (rd x0 x5) > 65535 then (some false) else (r33_within.l0 k x0 (wrap64 (x5 + 1))))) else (none)) else (some true)
def r33_within.f (k : Nat) (l0 : List Int) (a1 : Int) : Option (Bool) := if (l0.length : Int) > a1 then (some false) else (r33_within.l0 k l0 0)
set_option maxHeartbeats 8000000 in
set_option maxRecDepth 100000 in
theorem r33_within.calls (k : Nat) (A0 : Option Addr) (c0 : Nat) (l0 : List Int) (a1 : Int) (r : Bool) (w : World) (Bg : Kd.C (Kd.int .i64) w A0 l0.length l0) (Bh : l0.length ≤ c0) (h : r33_within.f k l0 a1 = some r) :
  Calls Try.prog 77 #[.slice A0 l0.length c0, .int .i64 a1] w fun e w' => e = .returned (.bool r) ∧ Drawn0 w w' := by
 have Bb := am_ Bg
 have Bk := am_ Bh
 clear Bg Bh
 have H := h
 unfold r33_within.f at H
 clear h
 by_cases c3 : (l0.length : Int) > a1
 ·rw [if_pos c3] at H
  have Bc : decide (a1 < (l0.length : Int)) = true := decide_eq_true c3
  clear c3
  obtain rfl := Option.some.inj H
  go_enter Try.func77, Try.ntmps77
  go_wp2
  go_ret
  exact ⟨by first | rfl | (simp; done) | (simp [*]; done), by repeat (first | exact Drawn0.refl _ | apply Drawn0.step)⟩
 ·rw [if_neg c3] at H
  have Bc : decide (a1 < (l0.length : Int)) = false := decide_eq_false c3
  clear c3
  have H' := am_ H
  clear H
  go_enter Try.func77, Try.ntmps77
  go_wp2
  go_loopg [5] k (fun kq v5 w' => ∃ (B0 : Int), v5 = .int .i64 B0 ∧ Aside0 (r33_within.l0 kq l0 B0 = some r) ∧ Aside0 (kq ≤ k) ∧ Drawn0 w w')
  case atStart => exact ⟨(0), (by first | rfl | (simp; done) | (simp [*]; done)), H', ⟨Nat.le_refl _⟩, by repeat (first | exact Drawn0.refl _ | apply Drawn0.step)⟩
  case round =>
   clear H'
   try clear p2
   try clear c3
   try clear Bc
   obtain ⟨B0, rfl, HA, Bi, ⟨m1, rfl⟩⟩ := hrel
   cases gk with
   | zero => exact absurd HA.out (by simp [r33_within.l0])
   | succ k1 =>
    have H := HA.out
    clear HA
    simp only [r33_within.l0] at H
    by_cases c4 : B0 < (l0.length : Int)
    ·rw [if_pos c4] at H
     have Bd : decide (B0 < (l0.length : Int)) = true := decide_eq_true c4
     clear c4
     by_cases c5 : 0 ≤ B0
     ·rw [if_pos c5] at H
      have Bj : decide (0 ≤ B0) = true := decide_eq_true c5
      clear c5
      by_cases c6 : (rd l0 B0) < 0
      ·rw [if_pos c6] at H
       have Be : decide ((rd l0 B0) < 0) = true := decide_eq_true c6
       clear c6
       obtain rfl := Option.some.inj H
       have B1 : 0 ≤ (B0 : Int) := of_decide_eq_true (by first | (with_reducible assumption) | assumption)
       have B2 : B0 < (l0.length : Int) := of_decide_eq_true (by first | (with_reducible assumption) | assumption)
       obtain ⟨B5, B7, B6⟩ := Kd.at_int Bb.out B0 B1 B2
       cases B7
       replace B1 := eq_true B1
       replace B2 := eq_true B2
       go_wp2
       go_ret
       exact ⟨by first | rfl | (simp; done) | (simp [*]; done), by repeat (first | exact Drawn0.refl _ | apply Drawn0.step)⟩
      ·rw [if_neg c6] at H
       have Be : decide ((rd l0 B0) < 0) = false := decide_eq_false c6
       clear c6
       by_cases c7 : (rd l0 B0) > 65535
       ·rw [if_pos c7] at H
        have Bf : decide (65535 < (rd l0 B0)) = true := decide_eq_true c7
        clear c7
        obtain rfl := Option.some.inj H
        have B1 : 0 ≤ (B0 : Int) := of_decide_eq_true (by first | (with_reducible assumption) | assumption)
        have B2 : B0 < (l0.length : Int) := of_decide_eq_true (by first | (with_reducible assumption) | assumption)
        obtain ⟨B5, B7, B6⟩ := Kd.at_int Bb.out B0 B1 B2
        cases B7
        replace B1 := eq_true B1
        replace B2 := eq_true B2
        have B3 : 0 ≤ (B0 : Int) := of_decide_eq_true (by first | (with_reducible assumption) | assumption)
        have B4 : B0 < (l0.length : Int) := of_decide_eq_true (by first | (with_reducible assumption) | assumption)
        obtain ⟨B8, Ba, B9⟩ := Kd.at_int Bb.out B0 B3 B4
        obtain rfl : B5 = B8 := (by injection Ba)
        replace B3 := eq_true B3
        replace B4 := eq_true B4
        go_wp2
        go_ret
        exact ⟨by first | rfl | (simp; done) | (simp [*]; done), by repeat (first | exact Drawn0.refl _ | apply Drawn0.step)⟩
       ·rw [if_neg c7] at H
        have Bf : decide (65535 < (rd l0 B0)) = false := decide_eq_false c7
        clear c7
        have H' := am_ H
        clear H
        have B1 : 0 ≤ (B0 : Int) := of_decide_eq_true (by first | (with_reducible assumption) | assumption)
        have B2 : B0 < (l0.length : Int) := of_decide_eq_true (by first | (with_reducible assumption) | assumption)
        obtain ⟨B5, B7, B6⟩ := Kd.at_int Bb.out B0 B1 B2
        cases B7
        replace B1 := eq_true B1
        replace B2 := eq_true B2
        have B3 : 0 ≤ (B0 : Int) := of_decide_eq_true (by first | (with_reducible assumption) | assumption)
        have B4 : B0 < (l0.length : Int) := of_decide_eq_true (by first | (with_reducible assumption) | assumption)
        obtain ⟨B8, Ba, B9⟩ := Kd.at_int Bb.out B0 B3 B4
        obtain rfl : B5 = B8 := (by injection Ba)
        replace B3 := eq_true B3
        replace B4 := eq_true B4
        go_wp2
        go_roundg k1
        case measure => have := Bi.out; omega
        case rel => exact ⟨(wrap64 (B0 + 1)), (by first | rfl | (simp; done) | (simp [*]; done)), H', ⟨by have := Bi.out; omega⟩, by repeat (first | exact Drawn0.refl _ | apply Drawn0.step)⟩
     ·rw [if_neg c5] at H
      exact absurd H (by simp)
    ·rw [if_neg c4] at H
     have Bd : decide (B0 < (l0.length : Int)) = false := decide_eq_false c4
     clear c4
     obtain rfl := Option.some.inj H
     go_wp2
     go_ret
     exact ⟨by first | rfl | (simp; done) | (simp [*]; done), by repeat (first | exact Drawn0.refl _ | apply Drawn0.step)⟩
mutual
def r33_waits.l0 : Nat → List Int → List (S74) → Int → Int → List Int → List Int → List (S74) → List (S48) → List (S74) → List (S81) → Option (List Int)
 | 0, _, _, _, _, _, _, _, _, _, _ => none
 | k + 1, x3, x9, B9, B6, B1, B2, B3, B4, B0, B5 => if B6 < B9 then (if 0 ≤ B6 then (if B6 < (x9.length : Int) then (if x3.length < 17592186044416 then (r33_waits.l0 k (x3 ++ [(rd_T74 x9 B6).f2]) x9 B9 (wrap64 (B6 + 1)) B1 B2 B3 B4 B0 B5) else (none)) else (none)) else (none)) else (r33_waits.l1 k x3 B0 (B0.length : Int) 0)
def r33_waits.l1 : Nat → List Int → List (S74) → Int → Int → Option (List Int)
 | 0, _, _, _, _ => none
 | k + 1, x3, B8, Ba, B7 => if B7 < Ba then (if 0 ≤ B7 then (if B7 < (B8.length : Int) then (if x3.length < 17592186044416 then (r33_waits.l1 k (x3 ++ [(rd_T74 B8 B7).f2]) B8 Ba (wrap64 (B7 + 1))) else (none)) else (none)) else (none)) else (some x3)
end
def r33_waits.f (k : Nat) (B1 B2 : List Int) (B0 : List (S74)) (B3 : List (S48)) (B4 : List (S74)) (B5 : List (S81)) : Option (List Int) := r33_waits.l0 k ([] : List Int) B0 (B0.length : Int) 0 B1 B2 B0 B3 B4 B5
set_option maxHeartbeats 8000000 in
set_option maxRecDepth 100000 in
theorem r33_waits.calls (k : Nat) (Bp : Option Addr) (Bq : Nat) (B9 : List Int) (Br : Option Addr) (Bs : Nat) (Ba : List Int) (D1 : Option Addr) (Bt : Nat) (B2 : List (S74)) (Bu : Option Addr) (Bv : Nat) (Bb : List (S48)) (D2 : Option Addr) (Bw : Nat) (B3 : List (S74)) (Bx : Option Addr) (By : Nat) (Bc : List (S81)) (r : List Int) (w : World) (Da : Kd.C (Kd.int .i64) w Bp B9.length B9) (Db : B9.length ≤ Bq) (Dc : Kd.C (Kd.int .i64) w Br Ba.length Ba) (Dd : Ba.length ≤ Bs) (De : Kd.C k74 w D1 B2.length B2) (Df : B2.length ≤ Bt) (Dg : Kd.C k48 w Bu Bb.length Bb) (Dh : Bb.length ≤ Bv) (Di : Kd.C k74 w D2 B3.length B3) (Dj : B3.length ≤ Bw) (Dk : Kd.C k81 w Bx Bc.length Bc) (Dl : Bc.length ≤ By) (h : r33_waits.f k B9 Ba B2 Bb B3 Bc = some r) :
  Calls Try.prog 78 #[.agg #[.slice Bp B9.length Bq, .slice Br Ba.length Bs, .slice D1 B2.length Bt, .slice Bu Bb.length Bv, .slice D2 B3.length Bw, .slice Bx Bc.length By]] w fun e w' => ∃ Ej : Value, e = .returned (Ej) ∧ Kd.R (Kd.int .i64) 3 w' w.heap.size (fun _ => True) Ej r ∧ Below w.heap.size w w' := by
 have F1 := Try.underlying44
 have F2 := Try.underlying74
 have Ek := am_ Da
 have El := am_ Db
 clear Da Db
 have Em := am_ Dc
 have En := am_ Dd
 clear Dc Dd
 have Dq := am_ De
 have Eo := am_ Df
 clear De Df
 have Ep := am_ Dg
 have Eq := am_ Dh
 clear Dg Dh
 have Dr := am_ Di
 have Er := am_ Dj
 clear Di Dj
 have Es := am_ Dk
 have Et := am_ Dl
 clear Dk Dl
 have HB := am_ (Below.refl w.heap.size w)
 have H := h
 unfold r33_waits.f at H
 clear h
 have H' := am_ H
 clear H
 go_enter Try.func78, Try.ntmps78
 go_wp2_with (first | ((with_reducible refine gate_dst (N := 1) rfl ?_); refine bxe_ 1 44 #[.slice Bp B9.length Bq, .slice Br Ba.length Bs, .slice D1 B2.length Bt, .slice Bu Bb.length Bv, .slice D2 B3.length Bw, .slice Bx Bc.length By] ?_; intro D0 hg w2 hbox hb; have B4 := am_ (hbox); have Ds := gwk_ HB hg; have B6 := Ds; replace HB := bst_ HB hb; clear hb hbox hg; have Dt := cells_6 B4.out; have Du := frozen_6 B4.out))
 go_loopg [3, 11] k (fun kq v3 v11 w' => ∃ (Bz : List Int) (B0 : Int), v11 = .int .i64 B0 ∧ Aside0 (r33_waits.l0 kq Bz B2 (B2.length : Int) B0 B9 Ba B2 Bb B3 Bc = some r) ∧ Aside0 (kq ≤ k) ∧ Aside0 (Kd.R (Kd.int .i64) 3 w' w.heap.size (fun _ => True) v3 Bz) ∧ Aside0 (w'.heap[D0]? = some (.cells #[(.slice Bp B9.length Bq), (.slice Br Ba.length Bs), (.slice D1 B2.length Bt), (.slice Bu Bb.length Bv), (.slice D2 B3.length Bw), (.slice Bx Bc.length By)] 44 (0, 0))) ∧ Aside0 (Below w.heap.size w w'))
 case atStart => exact ⟨(([] : List Int)), (0), (by first | rfl | (simp; done) | (simp [*]; done)), H', ⟨Nat.le_refl _⟩, ⟨by first | exact Kd.R_nil _ _ _ _ _ | exact Kd.N_nil _ _ _ _ _ | exact Kd.V_nil _ _ _ _ _ | exact Kd.Q_nil _ _ _ _ _ | exact Kd.S_nil _ _ _ _ _⟩, ⟨by (with_reducible repeat (first | apply kn_ | apply kd_ | apply ka_)); exact B4.out⟩, ⟨by repeat (first | (with_reducible first | exact HB.out | apply ba_ | apply bn_ | apply bd_ | refine bs_ ?_ B6.out) | exact HB.out)⟩⟩
 case round =>
  clear H'
  try clear p2
  try clear Dt
  try clear Du
  obtain ⟨Bz, B0, rfl, HA, Ea, B5, B4, HB⟩ := hrel
  cases gk with
  | zero => exact absurd HA.out (by simp [r33_waits.l0])
  | succ k1 =>
   have H := HA.out
   clear HA
   simp only [r33_waits.l0] at H
   by_cases c4 : B0 < (B2.length : Int)
   ·rw [if_pos c4] at H
    have Dv : decide (B0 < (B2.length : Int)) = true := decide_eq_true c4
    clear c4
    by_cases c5 : 0 ≤ B0
    ·rw [if_pos c5] at H
     have Ee : decide (0 ≤ B0) = true := decide_eq_true c5
     clear c5
     by_cases c6 : B0 < (B2.length : Int)
     ·rw [if_pos c6] at H
      have Ef : decide (B0 < (B2.length : Int)) = true := decide_eq_true c6
      clear c6
      by_cases c7 : Bz.length < 17592186044416
      ·rw [if_pos c7] at H
       have Eg := am_ c7
       clear c7
       obtain ⟨y404, hy404⟩ : ∃ y_ : List Int, y_ = (Bz ++ [(rd_T74 B2 B0).f2]) := ⟨_, rfl⟩
       replace H : (r33_waits.l0 k1 y404 B2 (B2.length : Int) (wrap64 (B0 + 1)) B9 Ba B2 Bb B3 Bc) = some r := by first | (rw [hy404]; with_reducible exact H) | (have Dm := (Option.bind_some _ _).symm.trans H; rw [hy404]; with_reducible exact Dm) | (have Dm := (Option.bind_some _ _).symm.trans H; with_reducible exact Dm) | with_reducible exact H | (rw [hy404]; exact H) | exact H
       have Dw := am_ hy404
       clear hy404
       have H' := am_ H
       clear H
       have D8 : 0 ≤ (B0 : Int) := of_decide_eq_true (by first | (with_reducible assumption) | assumption)
       have D9 : B0 < (B2.length : Int) := of_decide_eq_true (by first | (with_reducible assumption) | assumption)
       obtain ⟨Dx, Eh, Bd, Be, Bf, Bg⟩ := at_T74 Dq.out B0 D8 D9
       cases Eh
       replace Bd := (HB.out.cell (World.block_lt_of_cell? w _ Bd)).trans Bd
       replace Be := (HB.out.cell (World.block_lt_of_cell? w _ Be)).trans Be
       replace Bf := (HB.out.cell (World.block_lt_of_cell? w _ Bf)).trans Bf
       replace Bg := (HB.out.cell (World.block_lt_of_cell? w _ Bg)).trans Bg
       replace D8 := eq_true D8
       replace D9 := eq_true D9
       go_wp2_with (first | ((with_reducible refine gate_dst (N := 5) rfl ?_); refine bxe_ 5 74 #[.int .i64 0, .int .i64 0, .int .i64 0, .string (⟨#[]⟩ : ByteArray)] ?_; intro Bn hg w8 hbox hb; replace B5 := am_ (Kd.R_below B5.out hb); have Bh := am_ (hbox); have Dy := gwk_ HB hg; have D6 := Dy; replace HB := bst_ HB hb; have B7 := nbk_ B4 hg; have D3 := nbs_ B7; replace B4 := bkb_ B4 hb; clear hb hbox hg; have F3 := D3.out; have F4 := B7.out; have Dz := cells_4 Bh.out; have E0 := frozen_4 Bh.out) | ((with_reducible refine gate_builtin (b := .append) (xs := #[.tmp 15, .tmp 18]) rfl ?_); at_builtin; refine Kd.R_append (Kd.int .i64) (w0 := w) w.heap.size rfl (.tmp 15) (.tmp 18) 22 3 (.int .i64 0) 8 rfl Try.underlying22 info3 rfl (by decide) (by omega) u3 Bz ((rd_T74 B2 B0).f2) [.int .i64 ((rd_T74 B2 B0).f2)] (fun _ => True) (fun _ => False) rfl (by first | (go_simp; done) | (go_simp; rfl)) ?aP (fun _ hk => hk.elim) ?aF ?aO ?aB ?aS ?aL ?_; (case aP => exact rfl); (case aB => exact (by repeat (first | (with_reducible first | exact HB.out | apply ba_ | apply bn_ | apply bd_ | refine bs_ ?_ B6.out | refine bs_ ?_ D6.out) | exact HB.out))); (case aF => exact (fun _ _ => trivial)); (case aO => exact (by (with_reducible repeat (first | apply Kd.R_alloc | apply Kd.R_drewN | apply Kd.R_drew)); exact Kd.R_mono (Kd.R_far (p := ⟨Bn, 3, none⟩) (Kd.R_far (p := ⟨Bn, 2, none⟩) (Kd.R_far (p := ⟨Bn, 1, none⟩) (Kd.R_far (p := ⟨Bn, 0, none⟩) (Kd.R_types B5.out Bh.out (by decide)) (fun _ hk => hk.2) (.int .i64 ((rd_T74 B2 B0).f0))) (fun _ hk => hk.2) (.int .i64 ((rd_T74 B2 B0).f1))) (fun _ hk => hk.2) (.int .i64 ((rd_T74 B2 B0).f2))) (fun _ hk => hk.2) (.string ((rd_T74 B2 B0).f3))) (fun _ hk => trivial))); (case aS => exact (below_size (by repeat (first | (with_reducible first | exact HB.out | apply ba_ | apply bn_ | apply bd_ | refine bs_ ?_ B6.out | refine bs_ ?_ D6.out) | exact HB.out)))); (case aL => have := Eg.out; omega); intro v405 w11 ho hb hg hat; rw [← Dw.out] at ho; replace B4 := am_ (blk_grown (g := D0) (o := .cells #[.slice Bp B9.length Bq, .slice Br Ba.length Bs, .slice (some Dx) B2.length Bt, .slice Bu Bb.length Bv, .slice D2 B3.length Bw, .slice Bx Bc.length By] 44 (0, 0)) (by (iterate 4 ((with_reducible repeat (first | apply kn_ | apply kd_ | apply ka_)); refine blk_far ?_ B7.out _)); (with_reducible repeat (first | apply kn_ | apply kd_ | apply ka_)); exact B4.out) hg (Kd.R_ne B5.out B4.out (by decide))); replace Bh := am_ (blk_grown (g := Bn) (o := .cells #[.int .i64 ((rd_T74 B2 B0).f0), .int .i64 ((rd_T74 B2 B0).f1), .int .i64 ((rd_T74 B2 B0).f2), .string ((rd_T74 B2 B0).f3)] 74 (0, 0)) (by (with_reducible repeat (first | apply kn_ | apply kd_ | apply ka_)); refine blk_put (cs := #[.int .i64 ((rd_T74 B2 B0).f0), .int .i64 ((rd_T74 B2 B0).f1), .int .i64 ((rd_T74 B2 B0).f2), .string (⟨#[]⟩ : ByteArray)]) ?_ 3 _ rfl; (with_reducible repeat (first | apply kn_ | apply kd_ | apply ka_)); refine blk_put (cs := #[.int .i64 ((rd_T74 B2 B0).f0), .int .i64 ((rd_T74 B2 B0).f1), .int .i64 0, .string (⟨#[]⟩ : ByteArray)]) ?_ 2 _ rfl; (with_reducible repeat (first | apply kn_ | apply kd_ | apply ka_)); refine blk_put (cs := #[.int .i64 ((rd_T74 B2 B0).f0), .int .i64 0, .int .i64 0, .string (⟨#[]⟩ : ByteArray)]) ?_ 1 _ rfl; (with_reducible repeat (first | apply kn_ | apply kd_ | apply ka_)); refine blk_put (cs := #[.int .i64 0, .int .i64 0, .int .i64 0, .string (⟨#[]⟩ : ByteArray)]) ?_ 0 _ rfl; (with_reducible repeat (first | apply kn_ | apply kd_ | apply ka_)); exact Bh.out) hg (Kd.R_ne B5.out Bh.out (by decide))); replace HB := am_ (hb); have E1 := am_ (ho); clear B5; clear ho hb hg hat))
       go_roundg k1
       case measure => have := Ea.out; omega
       case rel => exact ⟨(y404), (wrap64 (B0 + 1)), (by first | rfl | (simp; done) | (simp [*]; done)), H', ⟨by have := Ea.out; omega⟩, ⟨by (with_reducible repeat (first | apply Kd.R_alloc | apply Kd.R_drewN | apply Kd.R_drew)); exact E1.out⟩, ⟨by (with_reducible repeat (first | apply kn_ | apply kd_ | apply ka_)); exact B4.out⟩, ⟨by repeat (first | (with_reducible first | exact HB.out | apply ba_ | apply bn_ | apply bd_ | refine bs_ ?_ B6.out | refine bs_ ?_ D6.out) | exact HB.out)⟩⟩
      ·rw [if_neg c7] at H
       exact absurd H (by simp)
     ·rw [if_neg c6] at H
      exact absurd H (by simp)
    ·rw [if_neg c5] at H
     exact absurd H (by simp)
   ·rw [if_neg c4] at H
    have Dv : decide (B0 < (B2.length : Int)) = false := decide_eq_false c4
    clear c4
    have H' := am_ H
    clear H
    have E2 := cells_6 B4.out
    have E3 := frozen_6 B4.out
    go_wp2
    go_loopg [3, 24] k1 (fun kq v3 v24 w' => ∃ (D4 : List Int) (B1 : Int), v24 = .int .i64 B1 ∧ Aside0 (r33_waits.l1 kq D4 B3 (B3.length : Int) B1 = some r) ∧ Aside0 (kq ≤ k1) ∧ Aside0 (Kd.R (Kd.int .i64) 3 w' w.heap.size (fun _ => True) v3 D4) ∧ Aside0 (w'.heap[D0]? = some (.cells #[(.slice Bp B9.length Bq), (.slice Br Ba.length Bs), (.slice D1 B2.length Bt), (.slice Bu Bb.length Bv), (.slice D2 B3.length Bw), (.slice Bx Bc.length By)] 44 (0, 0))) ∧ Aside0 (Below w.heap.size w w'))
    case atStart => exact ⟨(Bz), (0), (by first | rfl | (simp; done) | (simp [*]; done)), H', ⟨Nat.le_refl _⟩, ⟨by (with_reducible repeat (first | apply Kd.R_alloc | apply Kd.R_drewN | apply Kd.R_drew)); exact B5.out⟩, ⟨by (with_reducible repeat (first | apply kn_ | apply kd_ | apply ka_)); exact B4.out⟩, ⟨by repeat (first | (with_reducible first | exact HB.out | apply ba_ | apply bn_ | apply bd_ | refine bs_ ?_ B6.out) | exact HB.out)⟩⟩
    case round =>
     clear H'
     try clear p2
     try clear c4
     try clear Dv
     try clear p4
     try clear q4
     try clear hx4
     try clear c5
     try clear Ee
     try clear c6
     try clear Ef
     try clear p6
     try clear c7
     try clear c9
     try clear Dz
     try clear E2
     try clear Dt
     try clear E0
     try clear E3
     try clear Du
     try clear Bd
     try clear Be
     try clear Bf
     try clear Bg
     try clear p2
     try clear D8
     try clear D9
     obtain ⟨D4, B1, rfl, HA, Eu, B5, B4, HB⟩ := hrel
     cases gk with
     | zero => exact absurd HA.out (by simp [r33_waits.l1])
     | succ k2 =>
      have H := HA.out
      clear HA
      simp only [r33_waits.l1] at H
      by_cases Dp : B1 < (B3.length : Int)
      ·rw [if_pos Dp] at H
       have E4 : decide (B1 < (B3.length : Int)) = true := decide_eq_true Dp
       clear Dp
       by_cases Eb : 0 ≤ B1
       ·rw [if_pos Eb] at H
        have Ev : decide (0 ≤ B1) = true := decide_eq_true Eb
        clear Eb
        by_cases Ec : B1 < (B3.length : Int)
        ·rw [if_pos Ec] at H
         have Ew : decide (B1 < (B3.length : Int)) = true := decide_eq_true Ec
         clear Ec
         by_cases Ed : D4.length < 17592186044416
         ·rw [if_pos Ed] at H
          have E5 := am_ Ed
          clear Ed
          obtain ⟨y409, hy409⟩ : ∃ y_ : List Int, y_ = (D4 ++ [(rd_T74 B3 B1).f2]) := ⟨_, rfl⟩
          replace H : (r33_waits.l1 k2 y409 B3 (B3.length : Int) (wrap64 (B1 + 1))) = some r := by first | (rw [hy409]; with_reducible exact H) | (have Dm := (Option.bind_some _ _).symm.trans H; rw [hy409]; with_reducible exact Dm) | (have Dm := (Option.bind_some _ _).symm.trans H; with_reducible exact Dm) | with_reducible exact H | (rw [hy409]; exact H) | exact H
          have E6 := am_ hy409
          clear hy409
          have H' := am_ H
          clear H
          have Dn : 0 ≤ (B1 : Int) := of_decide_eq_true (by first | (with_reducible assumption) | assumption)
          have Do : B1 < (B3.length : Int) := of_decide_eq_true (by first | (with_reducible assumption) | assumption)
          obtain ⟨E7, Ei, Bj, Bk, Bl, Bm⟩ := at_T74 Dr.out B1 Dn Do
          cases Ei
          replace Bj := (HB.out.cell (World.block_lt_of_cell? w _ Bj)).trans Bj
          replace Bk := (HB.out.cell (World.block_lt_of_cell? w _ Bk)).trans Bk
          replace Bl := (HB.out.cell (World.block_lt_of_cell? w _ Bl)).trans Bl
          replace Bm := (HB.out.cell (World.block_lt_of_cell? w _ Bm)).trans Bm
          replace Dn := eq_true Dn
          replace Do := eq_true Do
          go_wp2_with (first | ((with_reducible refine gate_dst (N := 7) rfl ?_); refine bxe_ 7 74 #[.int .i64 0, .int .i64 0, .int .i64 0, .string (⟨#[]⟩ : ByteArray)] ?_; intro Bo hg w17 hbox hb; replace B5 := am_ (Kd.R_below B5.out hb); have Bi := am_ (hbox); have E8 := gwk_ HB hg; have D7 := E8; replace HB := bst_ HB hb; have B8 := nbk_ B4 hg; have D5 := nbs_ B8; replace B4 := bkb_ B4 hb; clear hb hbox hg; have Ex := D5.out; have Ey := B8.out; have Ez := cells_4 Bi.out; have F0 := frozen_4 Bi.out) | ((with_reducible refine gate_builtin (b := .append) (xs := #[.tmp 28, .tmp 31]) rfl ?_); at_builtin; refine Kd.R_append (Kd.int .i64) (w0 := w) w.heap.size rfl (.tmp 28) (.tmp 31) 22 3 (.int .i64 0) 8 rfl Try.underlying22 info3 rfl (by decide) (by omega) u3 D4 ((rd_T74 B3 B1).f2) [.int .i64 ((rd_T74 B3 B1).f2)] (fun _ => True) (fun _ => False) rfl (by first | (go_simp; done) | (go_simp; rfl)) ?aP (fun _ hk => hk.elim) ?aF ?aO ?aB ?aS ?aL ?_; (case aP => exact rfl); (case aB => exact (by repeat (first | (with_reducible first | exact HB.out | apply ba_ | apply bn_ | apply bd_ | refine bs_ ?_ B6.out | refine bs_ ?_ D7.out) | exact HB.out))); (case aF => exact (fun _ _ => trivial)); (case aO => exact (by (with_reducible repeat (first | apply Kd.R_alloc | apply Kd.R_drewN | apply Kd.R_drew)); exact Kd.R_mono (Kd.R_far (p := ⟨Bo, 3, none⟩) (Kd.R_far (p := ⟨Bo, 2, none⟩) (Kd.R_far (p := ⟨Bo, 1, none⟩) (Kd.R_far (p := ⟨Bo, 0, none⟩) (Kd.R_types B5.out Bi.out (by decide)) (fun _ hk => hk.2) (.int .i64 ((rd_T74 B3 B1).f0))) (fun _ hk => hk.2) (.int .i64 ((rd_T74 B3 B1).f1))) (fun _ hk => hk.2) (.int .i64 ((rd_T74 B3 B1).f2))) (fun _ hk => hk.2) (.string ((rd_T74 B3 B1).f3))) (fun _ hk => trivial))); (case aS => exact (below_size (by repeat (first | (with_reducible first | exact HB.out | apply ba_ | apply bn_ | apply bd_ | refine bs_ ?_ B6.out | refine bs_ ?_ D7.out) | exact HB.out)))); (case aL => have := E5.out; omega); intro v410 w20 ho hb hg hat; rw [← E6.out] at ho; replace B4 := am_ (blk_grown (g := D0) (o := .cells #[.slice Bp B9.length Bq, .slice Br Ba.length Bs, .slice D1 B2.length Bt, .slice Bu Bb.length Bv, .slice (some E7) B3.length Bw, .slice Bx Bc.length By] 44 (0, 0)) (by (iterate 4 ((with_reducible repeat (first | apply kn_ | apply kd_ | apply ka_)); refine blk_far ?_ B8.out _)); (with_reducible repeat (first | apply kn_ | apply kd_ | apply ka_)); exact B4.out) hg (Kd.R_ne B5.out B4.out (by decide))); replace Bi := am_ (blk_grown (g := Bo) (o := .cells #[.int .i64 ((rd_T74 B3 B1).f0), .int .i64 ((rd_T74 B3 B1).f1), .int .i64 ((rd_T74 B3 B1).f2), .string ((rd_T74 B3 B1).f3)] 74 (0, 0)) (by (with_reducible repeat (first | apply kn_ | apply kd_ | apply ka_)); refine blk_put (cs := #[.int .i64 ((rd_T74 B3 B1).f0), .int .i64 ((rd_T74 B3 B1).f1), .int .i64 ((rd_T74 B3 B1).f2), .string (⟨#[]⟩ : ByteArray)]) ?_ 3 _ rfl; (with_reducible repeat (first | apply kn_ | apply kd_ | apply ka_)); refine blk_put (cs := #[.int .i64 ((rd_T74 B3 B1).f0), .int .i64 ((rd_T74 B3 B1).f1), .int .i64 0, .string (⟨#[]⟩ : ByteArray)]) ?_ 2 _ rfl; (with_reducible repeat (first | apply kn_ | apply kd_ | apply ka_)); refine blk_put (cs := #[.int .i64 ((rd_T74 B3 B1).f0), .int .i64 0, .int .i64 0, .string (⟨#[]⟩ : ByteArray)]) ?_ 1 _ rfl; (with_reducible repeat (first | apply kn_ | apply kd_ | apply ka_)); refine blk_put (cs := #[.int .i64 0, .int .i64 0, .int .i64 0, .string (⟨#[]⟩ : ByteArray)]) ?_ 0 _ rfl; (with_reducible repeat (first | apply kn_ | apply kd_ | apply ka_)); exact Bi.out) hg (Kd.R_ne B5.out Bi.out (by decide))); replace HB := am_ (hb); have E9 := am_ (ho); clear B5; clear ho hb hg hat))
          go_roundg k2
          case measure => have := Ea.out; have := Eu.out; omega
          case rel => exact ⟨(y409), (wrap64 (B1 + 1)), (by first | rfl | (simp; done) | (simp [*]; done)), H', ⟨by have := Ea.out; have := Eu.out; omega⟩, ⟨by (with_reducible repeat (first | apply Kd.R_alloc | apply Kd.R_drewN | apply Kd.R_drew)); exact E9.out⟩, ⟨by (with_reducible repeat (first | apply kn_ | apply kd_ | apply ka_)); exact B4.out⟩, ⟨by repeat (first | (with_reducible first | exact HB.out | apply ba_ | apply bn_ | apply bd_ | refine bs_ ?_ B6.out | refine bs_ ?_ D7.out) | exact HB.out)⟩⟩
         ·rw [if_neg Ed] at H
          exact absurd H (by simp)
        ·rw [if_neg Ec] at H
         exact absurd H (by simp)
       ·rw [if_neg Eb] at H
        exact absurd H (by simp)
      ·rw [if_neg Dp] at H
       have E4 : decide (B1 < (B3.length : Int)) = false := decide_eq_false Dp
       clear Dp
       obtain rfl := Option.some.inj H
       go_wp2
       go_ret
       exact ⟨_, by first | rfl | (simp [*] <;> rfl), by (with_reducible repeat (first | apply Kd.R_alloc | apply Kd.R_drewN | apply Kd.R_drew)); exact B5.out, by repeat (first | (with_reducible first | exact HB.out | apply ba_ | apply bn_ | apply bd_ | refine bs_ ?_ B6.out) | exact HB.out)⟩
end Go.Proofs.Ythdoghhmooodjaa.Gn
