import Derived.Test.YthdoghhmooodjaaZPremiseAfterGn0
import Derived.Test.YthdoghhmooodjaaZPremiseAfterGn1
namespace Go.Proofs.Ythdoghhmooodjaa.Gn
open Go.RowKit Go.Proofs.YthdoghhmooodjaaW.PrintWords Go.Proofs.YthdoghhmooodjaaW.PrintLast Go.Proofs.YthdoghhmooodjaaW.PrintMore
attribute [local go_sem] max2_int min2_int max_two min_two max_three min_three max_four min_four   -- for this text's walks alone
set_option linter.unusedVariables false
set_option linter.unusedSimpArgs false
mutual
def r33_long.l0 : Nat → List (S74) → Int → Int → List Int → List Int → List (S74) → List (S48) → List (S74) → List (S81) → Option (Bool)
 | 0, _, _, _, _, _, _, _, _, _ => none
 | k + 1, B9, Bc, B6, B2, B3, B4, B0, B1, B5 => if B6 < Bc then (if 0 ≤ B6 then (if B6 < (B9.length : Int) then (if (((rd_T74 B9 B6).f3).size : Int) > 40 then (some true) else (r33_long.l0 k B9 Bc (wrap64 (B6 + 1)) B2 B3 B4 B0 B1 B5)) else (none)) else (none)) else (r33_long.l1 k B1 (B1.length : Int) 0 B2 B3 B4 B0 B1 B5)
def r33_long.l1 : Nat → List (S74) → Int → Int → List Int → List Int → List (S74) → List (S48) → List (S74) → List (S81) → Option (Bool)
 | 0, _, _, _, _, _, _, _, _, _ => none
 | k + 1, Ba, Bd, B7, B2, B3, B4, B0, B1, B5 => if B7 < Bd then (if 0 ≤ B7 then (if B7 < (Ba.length : Int) then (if (((rd_T74 Ba B7).f3).size : Int) > 40 then (some true) else (r33_long.l1 k Ba Bd (wrap64 (B7 + 1)) B2 B3 B4 B0 B1 B5)) else (none)) else (none)) else (r33_long.l2 k B0 (B0.length : Int) 0)
def r33_long.l2 : Nat → List (S48) → Int → Int → Option (Bool)
 | 0, _, _, _ => none
 | k + 1, Bb, Be, B8 => if B8 < Be then (if 0 ≤ B8 then (if B8 < (Bb.length : Int) then (if (((rd_T48 Bb B8).f1).size : Int) > 8000 then (some true) else (r33_long.l2 k Bb Be (wrap64 (B8 + 1)))) else (none)) else (none)) else (some false)
end
def r33_long.f (k : Nat) (B1 B2 : List Int) (B0 : List (S74)) (B3 : List (S48)) (B4 : List (S74)) (B5 : List (S81)) : Option (Bool) := r33_long.l0 k B0 (B0.length : Int) 0 B1 B2 B0 B3 B4 B5
set_option maxHeartbeats 8000000 in
set_option maxRecDepth 100000 in
theorem r33_long.calls (k : Nat) (D0 : Option Addr) (D1 : Nat) (Bo : List Int) (D2 : Option Addr) (D3 : Nat) (Bp : List Int) (D4 : Option Addr) (D5 : Nat) (B4 : List (S74)) (D6 : Option Addr) (D7 : Nat) (B5 : List (S48)) (D8 : Option Addr) (D9 : Nat) (B6 : List (S74)) (Da : Option Addr) (Db : Nat) (Bq : List (S81)) (r : Bool) (w : World) (Dj : Kd.C (Kd.int .i64) w D0 Bo.length Bo) (Dk : Bo.length ≤ D1) (Dl : Kd.C (Kd.int .i64) w D2 Bp.length Bp) (Dm : Bp.length ≤ D3) (Dn : Kd.C k74 w D4 B4.length B4) (Do : B4.length ≤ D5) (Dp : Kd.C k48 w D6 B5.length B5) (Dq : B5.length ≤ D7) (Dr : Kd.C k74 w D8 B6.length B6) (Ds : B6.length ≤ D9) (Dt : Kd.C k81 w Da Bq.length Bq) (Du : Bq.length ≤ Db) (h : r33_long.f k Bo Bp B4 B5 B6 Bq = some r) :
  Calls Try.prog 80 #[.agg #[.slice D0 Bo.length D1, .slice D2 Bp.length D3, .slice D4 B4.length D5, .slice D6 B5.length D7, .slice D8 B6.length D9, .slice Da Bq.length Db]] w fun e w' => e = .returned (.bool r) ∧ Below w.heap.size w w' := by
 have G3 := Try.underlying44
 have G4 := Try.underlying74
 have G5 := Try.underlying48
 have Fh := am_ Dj
 have Fi := am_ Dk
 clear Dj Dk
 have Fj := am_ Dl
 have Fk := am_ Dm
 clear Dl Dm
 have Dv := am_ Dn
 have Fl := am_ Do
 clear Dn Do
 have Dw := am_ Dp
 have Fm := am_ Dq
 clear Dp Dq
 have Dx := am_ Dr
 have Fn := am_ Ds
 clear Dr Ds
 have Fo := am_ Dt
 have Fp := am_ Du
 clear Dt Du
 have HB := am_ (Below.refl w.heap.size w)
 have H := h
 unfold r33_long.f at H
 clear h
 have H' := am_ H
 clear H
 go_enter Try.func80, Try.ntmps80
 go_wp2_with (first | ((with_reducible refine gate_dst (N := 1) rfl ?_); refine bxe_ 1 44 #[.slice D0 Bo.length D1, .slice D2 Bp.length D3, .slice D4 B4.length D5, .slice D6 B5.length D7, .slice D8 B6.length D9, .slice Da Bq.length Db] ?_; intro Dc hg w2 hbox hb; have B0 := am_ (hbox); have Ek := gwk_ HB hg; have Bk := Ek; replace HB := bst_ HB hb; clear hb hbox hg; have E7 := cells_6 B0.out; have E8 := frozen_6 B0.out))
 go_loopg [12] k (fun kq v12 w' => ∃ (B1 : Int), v12 = .int .i64 B1 ∧ Aside0 (r33_long.l0 kq B4 (B4.length : Int) B1 Bo Bp B4 B5 B6 Bq = some r) ∧ Aside0 (kq ≤ k) ∧ Aside0 (w'.heap[Dc]? = some (.cells #[(.slice D0 Bo.length D1), (.slice D2 Bp.length D3), (.slice D4 B4.length D5), (.slice D6 B5.length D7), (.slice D8 B6.length D9), (.slice Da Bq.length Db)] 44 (0, 0))) ∧ Aside0 (Below w.heap.size w w'))
 case atStart => exact ⟨(0), (by first | rfl | (simp; done) | (simp [*]; done)), H', ⟨Nat.le_refl _⟩, ⟨by (with_reducible repeat (first | apply kn_ | apply kd_ | apply ka_)); exact B0.out⟩, ⟨by repeat (first | (with_reducible first | exact HB.out | apply ba_ | apply bn_ | apply bd_ | refine bs_ ?_ Bk.out) | exact HB.out)⟩⟩
 case round =>
  clear H'
  try clear p2
  try clear E7
  try clear E8
  obtain ⟨B1, rfl, HA, Eh, B0, HB⟩ := hrel
  cases gk with
  | zero => exact absurd HA.out (by simp [r33_long.l0])
  | succ k1 =>
   have H := HA.out
   clear HA
   simp only [r33_long.l0] at H
   by_cases c4 : B1 < (B4.length : Int)
   ·rw [if_pos c4] at H
    have E9 : decide (B1 < (B4.length : Int)) = true := decide_eq_true c4
    clear c4
    by_cases c5 : 0 ≤ B1
    ·rw [if_pos c5] at H
     have El : decide (0 ≤ B1) = true := decide_eq_true c5
     clear c5
     by_cases c6 : B1 < (B4.length : Int)
     ·rw [if_pos c6] at H
      have Em : decide (B1 < (B4.length : Int)) = true := decide_eq_true c6
      clear c6
      by_cases c7 : (((rd_T74 B4 B1).f3).size : Int) > 40
      ·rw [if_pos c7] at H
       have Ea : decide (40 < (((rd_T74 B4 B1).f3).size : Int)) = true := decide_eq_true c7
       have Eb : decide (40 < ((rd_T74 B4 B1).f3).size) = true := decide_eq_true (by omega)
       clear c7
       obtain rfl := Option.some.inj H
       have Br : 0 ≤ (B1 : Int) := of_decide_eq_true (by first | (with_reducible assumption) | assumption)
       have Bs : B1 < (B4.length : Int) := of_decide_eq_true (by first | (with_reducible assumption) | assumption)
       obtain ⟨En, Ec, B7, B8, B9, Ba⟩ := at_T74 Dv.out B1 Br Bs
       cases Ec
       replace B7 := (HB.out.cell (World.block_lt_of_cell? w _ B7)).trans B7
       replace B8 := (HB.out.cell (World.block_lt_of_cell? w _ B8)).trans B8
       replace B9 := (HB.out.cell (World.block_lt_of_cell? w _ B9)).trans B9
       replace Ba := (HB.out.cell (World.block_lt_of_cell? w _ Ba)).trans Ba
       replace Br := eq_true Br
       replace Bs := eq_true Bs
       go_wp2_with (first | ((with_reducible refine gate_dst (N := 4) rfl ?_); refine bxe_ 4 74 #[.int .i64 0, .int .i64 0, .int .i64 0, .string (⟨#[]⟩ : ByteArray)] ?_; intro Eo hg w8 hbox hb; have Bt := am_ (hbox); have Dd := gwk_ HB hg; have De := Dd; replace HB := bst_ HB hb; have Bb := nbk_ B0 hg; have Bl := nbs_ Bb; replace B0 := bkb_ B0 hb; clear hb hbox hg; have G6 := Bl.out; have G7 := Bb.out; have Dy := cells_4 Bt.out; have Dz := frozen_4 Bt.out))
       go_ret
       exact ⟨by first | rfl | (simp [*] <;> rfl), by repeat (first | (with_reducible first | exact HB.out | apply ba_ | apply bn_ | apply bd_ | refine bs_ ?_ Bk.out | refine bs_ ?_ De.out) | exact HB.out)⟩
      ·rw [if_neg c7] at H
       have Ea : decide (40 < (((rd_T74 B4 B1).f3).size : Int)) = false := decide_eq_false c7
       have Eb : decide (40 < ((rd_T74 B4 B1).f3).size) = false := decide_eq_false (by omega)
       clear c7
       have H' := am_ H
       clear H
       have Br : 0 ≤ (B1 : Int) := of_decide_eq_true (by first | (with_reducible assumption) | assumption)
       have Bs : B1 < (B4.length : Int) := of_decide_eq_true (by first | (with_reducible assumption) | assumption)
       obtain ⟨En, Ec, B7, B8, B9, Ba⟩ := at_T74 Dv.out B1 Br Bs
       cases Ec
       replace B7 := (HB.out.cell (World.block_lt_of_cell? w _ B7)).trans B7
       replace B8 := (HB.out.cell (World.block_lt_of_cell? w _ B8)).trans B8
       replace B9 := (HB.out.cell (World.block_lt_of_cell? w _ B9)).trans B9
       replace Ba := (HB.out.cell (World.block_lt_of_cell? w _ Ba)).trans Ba
       replace Br := eq_true Br
       replace Bs := eq_true Bs
       go_wp2_with (first | ((with_reducible refine gate_dst (N := 4) rfl ?_); refine bxe_ 4 74 #[.int .i64 0, .int .i64 0, .int .i64 0, .string (⟨#[]⟩ : ByteArray)] ?_; intro Eo hg w11 hbox hb; have Bt := am_ (hbox); have Dd := gwk_ HB hg; have De := Dd; replace HB := bst_ HB hb; have Bb := nbk_ B0 hg; have Bl := nbs_ Bb; replace B0 := bkb_ B0 hb; clear hb hbox hg; have Fq := Bl.out; have Fr := Bb.out; have E0 := cells_4 Bt.out; have E1 := frozen_4 Bt.out))
       go_roundg k1
       case measure => have := Eh.out; omega
       case rel => exact ⟨(wrap64 (B1 + 1)), (by first | rfl | (simp; done) | (simp [*]; done)), H', ⟨by have := Eh.out; omega⟩, ⟨by (iterate 4 ((with_reducible repeat (first | apply kn_ | apply kd_ | apply ka_)); refine blk_far ?_ Bb.out _)); (with_reducible repeat (first | apply kn_ | apply kd_ | apply ka_)); exact B0.out⟩, ⟨by repeat (first | (with_reducible first | exact HB.out | apply ba_ | apply bn_ | apply bd_ | refine bs_ ?_ Bk.out | refine bs_ ?_ De.out) | exact HB.out)⟩⟩
     ·rw [if_neg c6] at H
      exact absurd H (by simp)
    ·rw [if_neg c5] at H
     exact absurd H (by simp)
   ·rw [if_neg c4] at H
    have E9 : decide (B1 < (B4.length : Int)) = false := decide_eq_false c4
    clear c4
    have H' := am_ H
    clear H
    have E2 := cells_6 B0.out
    have E3 := frozen_6 B0.out
    go_wp2
    go_loopg [24] k1 (fun kq v24 w' => ∃ (B2 : Int), v24 = .int .i64 B2 ∧ Aside0 (r33_long.l1 kq B6 (B6.length : Int) B2 Bo Bp B4 B5 B6 Bq = some r) ∧ Aside0 (kq ≤ k1) ∧ Aside0 (w'.heap[Dc]? = some (.cells #[(.slice D0 Bo.length D1), (.slice D2 Bp.length D3), (.slice D4 B4.length D5), (.slice D6 B5.length D7), (.slice D8 B6.length D9), (.slice Da Bq.length Db)] 44 (0, 0))) ∧ Aside0 (Below w.heap.size w w'))
    case atStart => exact ⟨(0), (by first | rfl | (simp; done) | (simp [*]; done)), H', ⟨Nat.le_refl _⟩, ⟨by (with_reducible repeat (first | apply kn_ | apply kd_ | apply ka_)); exact B0.out⟩, ⟨by repeat (first | (with_reducible first | exact HB.out | apply ba_ | apply bn_ | apply bd_ | refine bs_ ?_ Bk.out) | exact HB.out)⟩⟩
    case round =>
     clear H'
     try clear c1
     try clear p2
     try clear c4
     try clear E9
     try clear p4
     try clear q4
     try clear hx4
     try clear c5
     try clear El
     try clear c6
     try clear Em
     try clear p6
     try clear c7
     try clear Ea
     try clear Eb
     try clear c8
     try clear c9
     try clear c12
     try clear Dy
     try clear E0
     try clear E2
     try clear E7
     try clear Dz
     try clear E1
     try clear E3
     try clear E8
     try clear B7
     try clear B8
     try clear B9
     try clear Ba
     try clear p2
     try clear Br
     try clear Bs
     obtain ⟨B2, rfl, HA, F6, B0, HB⟩ := hrel
     cases gk with
     | zero => exact absurd HA.out (by simp [r33_long.l1])
     | succ k2 =>
      have H := HA.out
      clear HA
      simp only [r33_long.l1] at H
      by_cases Ed : B2 < (B6.length : Int)
      ·rw [if_pos Ed] at H
       have E4 : decide (B2 < (B6.length : Int)) = true := decide_eq_true Ed
       clear Ed
       by_cases Ep : 0 ≤ B2
       ·rw [if_pos Ep] at H
        have Eq : decide (0 ≤ B2) = true := decide_eq_true Ep
        clear Ep
        by_cases Er : B2 < (B6.length : Int)
        ·rw [if_pos Er] at H
         have Es : decide (B2 < (B6.length : Int)) = true := decide_eq_true Er
         clear Er
         by_cases Ee : (((rd_T74 B6 B2).f3).size : Int) > 40
         ·rw [if_pos Ee] at H
          have E5 : decide (40 < (((rd_T74 B6 B2).f3).size : Int)) = true := decide_eq_true Ee
          have E6 : decide (40 < ((rd_T74 B6 B2).f3).size) = true := decide_eq_true (by omega)
          clear Ee
          obtain rfl := Option.some.inj H
          have Bu : 0 ≤ (B2 : Int) := of_decide_eq_true (by first | (with_reducible assumption) | assumption)
          have Bv : B2 < (B6.length : Int) := of_decide_eq_true (by first | (with_reducible assumption) | assumption)
          obtain ⟨Et, Ef, Be, Bf, Bg, Bh⟩ := at_T74 Dx.out B2 Bu Bv
          cases Ef
          replace Be := (HB.out.cell (World.block_lt_of_cell? w _ Be)).trans Be
          replace Bf := (HB.out.cell (World.block_lt_of_cell? w _ Bf)).trans Bf
          replace Bg := (HB.out.cell (World.block_lt_of_cell? w _ Bg)).trans Bg
          replace Bh := (HB.out.cell (World.block_lt_of_cell? w _ Bh)).trans Bh
          replace Bu := eq_true Bu
          replace Bv := eq_true Bv
          go_wp2_with (first | ((with_reducible refine gate_dst (N := 6) rfl ?_); refine bxe_ 6 74 #[.int .i64 0, .int .i64 0, .int .i64 0, .string (⟨#[]⟩ : ByteArray)] ?_; intro Eu hg w19 hbox hb; have Bw := am_ (hbox); have Df := gwk_ HB hg; have Dg := Df; replace HB := bst_ HB hb; have Bc := nbk_ B0 hg; have Bm := nbs_ Bc; replace B0 := bkb_ B0 hb; clear hb hbox hg; have Fs := Bm.out; have Ft := Bc.out; have Ev := cells_4 Bw.out; have Ew := frozen_4 Bw.out))
          go_ret
          exact ⟨by first | rfl | (simp [*] <;> rfl), by repeat (first | (with_reducible first | exact HB.out | apply ba_ | apply bn_ | apply bd_ | refine bs_ ?_ Bk.out | refine bs_ ?_ Dg.out) | exact HB.out)⟩
         ·rw [if_neg Ee] at H
          have E5 : decide (40 < (((rd_T74 B6 B2).f3).size : Int)) = false := decide_eq_false Ee
          have E6 : decide (40 < ((rd_T74 B6 B2).f3).size) = false := decide_eq_false (by omega)
          clear Ee
          have H' := am_ H
          clear H
          have Bu : 0 ≤ (B2 : Int) := of_decide_eq_true (by first | (with_reducible assumption) | assumption)
          have Bv : B2 < (B6.length : Int) := of_decide_eq_true (by first | (with_reducible assumption) | assumption)
          obtain ⟨Et, Ef, Be, Bf, Bg, Bh⟩ := at_T74 Dx.out B2 Bu Bv
          cases Ef
          replace Be := (HB.out.cell (World.block_lt_of_cell? w _ Be)).trans Be
          replace Bf := (HB.out.cell (World.block_lt_of_cell? w _ Bf)).trans Bf
          replace Bg := (HB.out.cell (World.block_lt_of_cell? w _ Bg)).trans Bg
          replace Bh := (HB.out.cell (World.block_lt_of_cell? w _ Bh)).trans Bh
          replace Bu := eq_true Bu
          replace Bv := eq_true Bv
          go_wp2_with (first | ((with_reducible refine gate_dst (N := 6) rfl ?_); refine bxe_ 6 74 #[.int .i64 0, .int .i64 0, .int .i64 0, .string (⟨#[]⟩ : ByteArray)] ?_; intro Eu hg w22 hbox hb; have Bw := am_ (hbox); have Df := gwk_ HB hg; have Dg := Df; replace HB := bst_ HB hb; have Bc := nbk_ B0 hg; have Bm := nbs_ Bc; replace B0 := bkb_ B0 hb; clear hb hbox hg; have Fu := Bm.out; have Fv := Bc.out; have Ex := cells_4 Bw.out; have Ey := frozen_4 Bw.out))
          go_roundg k2
          case measure => have := Eh.out; have := F6.out; omega
          case rel => exact ⟨(wrap64 (B2 + 1)), (by first | rfl | (simp; done) | (simp [*]; done)), H', ⟨by have := Eh.out; have := F6.out; omega⟩, ⟨by (iterate 4 ((with_reducible repeat (first | apply kn_ | apply kd_ | apply ka_)); refine blk_far ?_ Bc.out _)); (with_reducible repeat (first | apply kn_ | apply kd_ | apply ka_)); exact B0.out⟩, ⟨by repeat (first | (with_reducible first | exact HB.out | apply ba_ | apply bn_ | apply bd_ | refine bs_ ?_ Bk.out | refine bs_ ?_ Dg.out) | exact HB.out)⟩⟩
        ·rw [if_neg Er] at H
         exact absurd H (by simp)
       ·rw [if_neg Ep] at H
        exact absurd H (by simp)
      ·rw [if_neg Ed] at H
       have E4 : decide (B2 < (B6.length : Int)) = false := decide_eq_false Ed
       clear Ed
       have H' := am_ H
       clear H
       have Ez := cells_6 B0.out
       have F0 := frozen_6 B0.out
       go_wp2
       go_loopg [36] k2 (fun kq v36 w' => ∃ (B3 : Int), v36 = .int .i64 B3 ∧ Aside0 (r33_long.l2 kq B5 (B5.length : Int) B3 = some r) ∧ Aside0 (kq ≤ k2) ∧ Aside0 (w'.heap[Dc]? = some (.cells #[(.slice D0 Bo.length D1), (.slice D2 Bp.length D3), (.slice D4 B4.length D5), (.slice D6 B5.length D7), (.slice D8 B6.length D9), (.slice Da Bq.length Db)] 44 (0, 0))) ∧ Aside0 (Below w.heap.size w w'))
       case atStart => exact ⟨(0), (by first | rfl | (simp; done) | (simp [*]; done)), H', ⟨Nat.le_refl _⟩, ⟨by (with_reducible repeat (first | apply kn_ | apply kd_ | apply ka_)); exact B0.out⟩, ⟨by repeat (first | (with_reducible first | exact HB.out | apply ba_ | apply bn_ | apply bd_ | refine bs_ ?_ Bk.out) | exact HB.out)⟩⟩
       case round =>
        clear H'
        try clear c1
        try clear c2
        try clear p2
        try clear c4
        try clear E9
        try clear p4
        try clear q4
        try clear hx4
        try clear c5
        try clear El
        try clear c6
        try clear Em
        try clear p6
        try clear c7
        try clear Ea
        try clear Eb
        try clear c8
        try clear c9
        try clear c12
        try clear Ed
        try clear E4
        try clear Ep
        try clear Eq
        try clear Er
        try clear Es
        try clear Ee
        try clear E5
        try clear E6
        try clear c20
        try clear c23
        try clear Dy
        try clear E0
        try clear E2
        try clear Ev
        try clear Ex
        try clear Ez
        try clear E7
        try clear Dz
        try clear E1
        try clear E3
        try clear Ew
        try clear Ey
        try clear F0
        try clear E8
        try clear B7
        try clear B8
        try clear B9
        try clear Ba
        try clear Be
        try clear Bf
        try clear Bg
        try clear Bh
        try clear p2
        try clear p4
        try clear Br
        try clear Bu
        try clear p6
        try clear q4
        try clear Bs
        try clear Bv
        obtain ⟨B3, rfl, HA, Fw, B0, HB⟩ := hrel
        cases gk with
        | zero => exact absurd HA.out (by simp [r33_long.l2])
        | succ k3 =>
         have H := HA.out
         clear HA
         simp only [r33_long.l2] at H
         by_cases Ei : B3 < (B5.length : Int)
         ·rw [if_pos Ei] at H
          have F1 : decide (B3 < (B5.length : Int)) = true := decide_eq_true Ei
          clear Ei
          by_cases F7 : 0 ≤ B3
          ·rw [if_pos F7] at H
           have Fx : decide (0 ≤ B3) = true := decide_eq_true F7
           clear F7
           by_cases F8 : B3 < (B5.length : Int)
           ·rw [if_pos F8] at H
            have Fy : decide (B3 < (B5.length : Int)) = true := decide_eq_true F8
            clear F8
            by_cases Ej : (((rd_T48 B5 B3).f1).size : Int) > 8000
            ·rw [if_pos Ej] at H
             have F2 : decide (8000 < (((rd_T48 B5 B3).f1).size : Int)) = true := decide_eq_true Ej
             have F3 : decide (8000 < ((rd_T48 B5 B3).f1).size) = true := decide_eq_true (by omega)
             clear Ej
             obtain rfl := Option.some.inj H
             have By : 0 ≤ (B3 : Int) := of_decide_eq_true (by first | (with_reducible assumption) | assumption)
             have Bz : B3 < (B5.length : Int) := of_decide_eq_true (by first | (with_reducible assumption) | assumption)
             obtain ⟨F4, Eg, Bi, Bj⟩ := at_T48 Dw.out B3 By Bz
             cases Eg
             replace Bi := (HB.out.cell (World.block_lt_of_cell? w _ Bi)).trans Bi
             replace Bj := (HB.out.cell (World.block_lt_of_cell? w _ Bj)).trans Bj
             replace By := eq_true By
             replace Bz := eq_true Bz
             go_wp2_with (first | ((with_reducible refine gate_dst (N := 8) rfl ?_); refine bxe_ 8 48 #[.int .i64 0, .string (⟨#[]⟩ : ByteArray)] ?_; intro F5 hg w30 hbox hb; have Bx := am_ (hbox); have Dh := gwk_ HB hg; have Di := Dh; replace HB := bst_ HB hb; have Bd := nbk_ B0 hg; have Bn := nbs_ Bd; replace B0 := bkb_ B0 hb; clear hb hbox hg; have Fz := Bn.out; have G0 := Bd.out; obtain ⟨F9, Fa⟩ := cells_2 Bx.out; obtain ⟨Fb, Fc⟩ := frozen_2 Bx.out))
             go_ret
             exact ⟨by first | rfl | (simp [*] <;> rfl), by repeat (first | (with_reducible first | exact HB.out | apply ba_ | apply bn_ | apply bd_ | refine bs_ ?_ Bk.out | refine bs_ ?_ Di.out) | exact HB.out)⟩
            ·rw [if_neg Ej] at H
             have F2 : decide (8000 < (((rd_T48 B5 B3).f1).size : Int)) = false := decide_eq_false Ej
             have F3 : decide (8000 < ((rd_T48 B5 B3).f1).size) = false := decide_eq_false (by omega)
             clear Ej
             have H' := am_ H
             clear H
             have By : 0 ≤ (B3 : Int) := of_decide_eq_true (by first | (with_reducible assumption) | assumption)
             have Bz : B3 < (B5.length : Int) := of_decide_eq_true (by first | (with_reducible assumption) | assumption)
             obtain ⟨F4, Eg, Bi, Bj⟩ := at_T48 Dw.out B3 By Bz
             cases Eg
             replace Bi := (HB.out.cell (World.block_lt_of_cell? w _ Bi)).trans Bi
             replace Bj := (HB.out.cell (World.block_lt_of_cell? w _ Bj)).trans Bj
             replace By := eq_true By
             replace Bz := eq_true Bz
             go_wp2_with (first | ((with_reducible refine gate_dst (N := 8) rfl ?_); refine bxe_ 8 48 #[.int .i64 0, .string (⟨#[]⟩ : ByteArray)] ?_; intro F5 hg w33 hbox hb; have Bx := am_ (hbox); have Dh := gwk_ HB hg; have Di := Dh; replace HB := bst_ HB hb; have Bd := nbk_ B0 hg; have Bn := nbs_ Bd; replace B0 := bkb_ B0 hb; clear hb hbox hg; have G1 := Bn.out; have G2 := Bd.out; obtain ⟨Fd, Fe⟩ := cells_2 Bx.out; obtain ⟨Ff, Fg⟩ := frozen_2 Bx.out))
             go_roundg k3
             case measure => have := Eh.out; have := F6.out; have := Fw.out; omega
             case rel => exact ⟨(wrap64 (B3 + 1)), (by first | rfl | (simp; done) | (simp [*]; done)), H', ⟨by have := Eh.out; have := F6.out; have := Fw.out; omega⟩, ⟨by (iterate 2 ((with_reducible repeat (first | apply kn_ | apply kd_ | apply ka_)); refine blk_far ?_ Bd.out _)); (with_reducible repeat (first | apply kn_ | apply kd_ | apply ka_)); exact B0.out⟩, ⟨by repeat (first | (with_reducible first | exact HB.out | apply ba_ | apply bn_ | apply bd_ | refine bs_ ?_ Bk.out | refine bs_ ?_ Di.out) | exact HB.out)⟩⟩
           ·rw [if_neg F8] at H
            exact absurd H (by simp)
          ·rw [if_neg F7] at H
           exact absurd H (by simp)
         ·rw [if_neg Ei] at H
          have F1 : decide (B3 < (B5.length : Int)) = false := decide_eq_false Ei
          clear Ei
          obtain rfl := Option.some.inj H
          go_wp2
          go_ret
          exact ⟨by first | rfl | (simp [*] <;> rfl), by repeat (first | (with_reducible first | exact HB.out | apply ba_ | apply bn_ | apply bd_ | refine bs_ ?_ Bk.out) | exact HB.out)⟩
end Go.Proofs.Ythdoghhmooodjaa.Gn
