import Derived.Test.YthdoghhmooodjaaZPremiseAfterGn0
import Derived.Test.YthdoghhmooodjaaZPremiseAfterGn1
import Derived.Test.YthdoghhmooodjaaZPremiseAfterGn27
namespace Go.Proofs.Ythdoghhmooodjaa.Gn
open Go.RowKit Go.Proofs.YthdoghhmooodjaaW.PrintWords Go.Proofs.YthdoghhmooodjaaW.PrintLast Go.Proofs.YthdoghhmooodjaaW.PrintMore
attribute [local go_sem] max2_int min2_int max_two min_two max_three min_three max_four min_four   -- for this text's walks alone
set_option linter.unusedVariables false
set_option linter.unusedSimpArgs false
mutual
def r33_nodes.l0 : Nat → List (S74) → Int → Int → Int → Int → Int → Int → Int → Int → Int → Int → Int → Int → List Int → List Int → List Int → List (S74) → List (S48) → List (S74) → List (S81) → Option (Bool)
 | 0, _, _, _, _, _, _, _, _, _, _, _, _, _, _, _, _, _, _, _, _ => none
 | k + 1, Bl, Bv, Bh, B0, B1, B2, B3, B4, B5, B6, B7, B8, B9, Ba, Be, Bf, Bg, Bb, Bc, Bd => if Bh < Bv then (if 0 ≤ Bh then (if Bh < (Bl.length : Int) then ((r33_node.f B0 B1 B2 B3 B4 B5 B6 B7 B8 B9 Ba ((rd_T74 Bl Bh).f0)).bind fun Bn => (if Bn = true then ((r33_node.f B0 B1 B2 B3 B4 B5 B6 B7 B8 B9 Ba ((rd_T74 Bl Bh).f1)).bind fun Bo => (if Bo = true then (r33_nodes.l0 k Bl Bv (wrap64 (Bh + 1)) B0 B1 B2 B3 B4 B5 B6 B7 B8 B9 Ba Be Bf Bg Bb Bc Bd) else (some false))) else (some false))) else (none)) else (none)) else (r33_nodes.l1 k Bc (Bc.length : Int) 0 B0 B1 B2 B3 B4 B5 B6 B7 B8 B9 Ba Be Bf Bg Bb Bc Bd)
def r33_nodes.l1 : Nat → List (S74) → Int → Int → Int → Int → Int → Int → Int → Int → Int → Int → Int → Int → List Int → List Int → List Int → List (S74) → List (S48) → List (S74) → List (S81) → Option (Bool)
 | 0, _, _, _, _, _, _, _, _, _, _, _, _, _, _, _, _, _, _, _, _ => none
 | k + 1, Bm, Bw, Bi, B0, B1, B2, B3, B4, B5, B6, B7, B8, B9, Ba, Be, Bf, Bg, Bb, Bc, Bd => if Bi < Bw then (if 0 ≤ Bi then (if Bi < (Bm.length : Int) then ((r33_node.f B0 B1 B2 B3 B4 B5 B6 B7 B8 B9 Ba ((rd_T74 Bm Bi).f0)).bind fun Bp => (if Bp = true then ((r33_node.f B0 B1 B2 B3 B4 B5 B6 B7 B8 B9 Ba ((rd_T74 Bm Bi).f1)).bind fun Bq => (if Bq = true then (r33_nodes.l1 k Bm Bw (wrap64 (Bi + 1)) B0 B1 B2 B3 B4 B5 B6 B7 B8 B9 Ba Be Bf Bg Bb Bc Bd) else (some false))) else (some false))) else (none)) else (none)) else (r33_nodes.l2 k Bb (Bb.length : Int) 0 B0 B1 B2 B3 B4 B5 B6 B7 B8 B9 Ba Be Bf Bg Bb Bc Bd)
def r33_nodes.l2 : Nat → List (S48) → Int → Int → Int → Int → Int → Int → Int → Int → Int → Int → Int → Int → List Int → List Int → List Int → List (S74) → List (S48) → List (S74) → List (S81) → Option (Bool)
 | 0, _, _, _, _, _, _, _, _, _, _, _, _, _, _, _, _, _, _, _, _ => none
 | k + 1, Br, Bx, Bj, B0, B1, B2, B3, B4, B5, B6, B7, B8, B9, Ba, Be, Bf, Bg, Bb, Bc, Bd => if Bj < Bx then (if 0 ≤ Bj then (if Bj < (Br.length : Int) then ((r33_node.f B0 B1 B2 B3 B4 B5 B6 B7 B8 B9 Ba ((rd_T48 Br Bj).f0)).bind fun Bs => (if Bs = true then (r33_nodes.l2 k Br Bx (wrap64 (Bj + 1)) B0 B1 B2 B3 B4 B5 B6 B7 B8 B9 Ba Be Bf Bg Bb Bc Bd) else (some false))) else (none)) else (none)) else (r33_nodes.l3 k Bd (Bd.length : Int) 0 B0 B1 B2 B3 B4 B5 B6 B7 B8 B9 Ba)
def r33_nodes.l3 : Nat → List (S81) → Int → Int → Int → Int → Int → Int → Int → Int → Int → Int → Int → Int → List Int → Option (Bool)
 | 0, _, _, _, _, _, _, _, _, _, _, _, _, _, _ => none
 | k + 1, Bt, By, Bk, B0, B1, B2, B3, B4, B5, B6, B7, B8, B9, Ba => if Bk < By then (if 0 ≤ Bk then (if Bk < (Bt.length : Int) then ((r33_node.f B0 B1 B2 B3 B4 B5 B6 B7 B8 B9 Ba ((rd_T81 Bt Bk).f0)).bind fun Bu => (if Bu = true then (r33_nodes.l3 k Bt By (wrap64 (Bk + 1)) B0 B1 B2 B3 B4 B5 B6 B7 B8 B9 Ba) else (some false))) else (none)) else (none)) else (some true)
end
def r33_nodes.f (k : Nat) (B2 B3 B4 B5 B6 B7 B8 B9 Ba Bb : Int) (B1 Bc Bd : List Int) (B0 : List (S74)) (Be : List (S48)) (Bf : List (S74)) (Bg : List (S81)) : Option (Bool) := r33_nodes.l0 k B0 (B0.length : Int) 0 B2 B3 B4 B5 B6 B7 B8 B9 Ba Bb B1 Bc Bd B0 Be Bf Bg
set_option maxHeartbeats 8000000 in
set_option maxRecDepth 100000 in
theorem r33_nodes.calls (k : Nat) (Bj Bk Bl Bm Bn Bo Bp Bq Br Bs : Int) (D5 : Option Addr) (D6 : Nat) (B6 : List Int) (Dn : Option Addr) (Do : Nat) (Db : List Int) (Dp : Option Addr) (Dq : Nat) (Dc : List Int) (Dz : Option Addr) (Dr : Nat) (B4 : List (S74)) (Dx : Option Addr) (Ds : Nat) (Bf : List (S48)) (E0 : Option Addr) (Dt : Nat) (B5 : List (S74)) (Dy : Option Addr) (Du : Nat) (Bg : List (S81)) (r : Bool) (w : World) (Eo : Kd.C (Kd.int .i64) w D5 B6.length B6) (Ep : B6.length ≤ D6) (Fx : Kd.C (Kd.int .i64) w Dn Db.length Db) (Fy : Db.length ≤ Do) (Fz : Kd.C (Kd.int .i64) w Dp Dc.length Dc) (G0 : Dc.length ≤ Dq) (G1 : Kd.C k74 w Dz B4.length B4) (G2 : B4.length ≤ Dr) (G3 : Kd.C k48 w Dx Bf.length Bf) (G4 : Bf.length ≤ Ds) (G5 : Kd.C k74 w E0 B5.length B5) (G6 : B5.length ≤ Dt) (G7 : Kd.C k81 w Dy Bg.length Bg) (G8 : Bg.length ≤ Du) (h : r33_nodes.f k Bj Bk Bl Bm Bn Bo Bp Bq Br Bs B6 Db Dc B4 Bf B5 Bg = some r) :
  Calls Try.prog 79 #[.agg #[.int .i64 Bj, .int .i64 Bk, .int .i64 Bl, .int .i64 Bm, .int .i64 Bn, .int .i64 Bo, .int .i64 Bp, .int .i64 Bq, .int .i64 Br, .int .i64 Bs, .slice D5 B6.length D6], .agg #[.slice Dn Db.length Do, .slice Dp Dc.length Dq, .slice Dz B4.length Dr, .slice Dx Bf.length Ds, .slice E0 B5.length Dt, .slice Dy Bg.length Du]] w fun e w' => e = .returned (.bool r) ∧ Below w.heap.size w w' := by
 have Os := Try.underlying24
 have Ot := Try.underlying44
 have Ou := Try.underlying74
 have Ov := Try.underlying48
 have Ow := Try.underlying81
 have Bv := am_ Eo
 have Bw := am_ Ep
 clear Eo Ep
 have Ly := am_ Fx
 have Lz := am_ Fy
 clear Fx Fy
 have M0 := am_ Fz
 have M1 := am_ G0
 clear Fz G0
 have G9 := am_ G1
 have M2 := am_ G2
 clear G1 G2
 have Ga := am_ G3
 have M3 := am_ G4
 clear G3 G4
 have Gb := am_ G5
 have M4 := am_ G6
 clear G5 G6
 have Gc := am_ G7
 have M5 := am_ G8
 clear G7 G8
 have HB := am_ (Below.refl w.heap.size w)
 have H := h
 unfold r33_nodes.f at H
 clear h
 have H' := am_ H
 clear H
 go_enter Try.func79, Try.ntmps79
 go_wp2_with (first | ((with_reducible refine gate_dst (N := 2) rfl ?_); refine bxe_ 2 24 #[.int .i64 Bj, .int .i64 Bk, .int .i64 Bl, .int .i64 Bm, .int .i64 Bn, .int .i64 Bo, .int .i64 Bp, .int .i64 Bq, .int .i64 Br, .int .i64 Bs, .slice D5 B6.length D6] ?_; intro Dd hg w3 hbox hb; have B0 := am_ (hbox); have Jl := gwk_ HB hg; have B8 := Jl; replace HB := bst_ HB hb; clear hb hbox hg) | ((with_reducible refine gate_dst (N := 3) rfl ?_); refine bxe_ 3 44 #[.slice Dn Db.length Do, .slice Dp Dc.length Dq, .slice Dz B4.length Dr, .slice Dx Bf.length Ds, .slice E0 B5.length Dt, .slice Dy Bg.length Du] ?_; intro De hg w4 hbox hb; have B1 := am_ (hbox); have Jm := gwk_ HB hg; have B9 := Jm; replace HB := bst_ HB hb; have B7 := nbk_ B0 hg; have Ba := nbs_ B7; replace B0 := bkb_ B0 hb; clear hb hbox hg; have Ox := Ba.out; have Oy := B7.out; have Fj := cells_6 B1.out; have Fk := frozen_6 B1.out))
 go_loopg [16] k (fun kq v16 w' => ∃ (B2 : Int), v16 = .int .i64 B2 ∧ Aside0 (r33_nodes.l0 kq B4 (B4.length : Int) B2 Bj Bk Bl Bm Bn Bo Bp Bq Br Bs B6 Db Dc B4 Bf B5 Bg = some r) ∧ Aside0 (kq ≤ k) ∧ Aside0 (w'.heap[Dd]? = some (.cells #[.int .i64 Bj, .int .i64 Bk, .int .i64 Bl, .int .i64 Bm, .int .i64 Bn, .int .i64 Bo, .int .i64 Bp, .int .i64 Bq, .int .i64 Br, .int .i64 Bs, (.slice D5 B6.length D6)] 24 (0, 0))) ∧ Aside0 (w'.heap[De]? = some (.cells #[(.slice Dn Db.length Do), (.slice Dp Dc.length Dq), (.slice Dz B4.length Dr), (.slice Dx Bf.length Ds), (.slice E0 B5.length Dt), (.slice Dy Bg.length Du)] 44 (0, 0))) ∧ Aside0 (Below w.heap.size w w'))
 case atStart => exact ⟨(0), (by first | rfl | (simp; done) | (simp [*]; done)), H', ⟨Nat.le_refl _⟩, ⟨by (with_reducible repeat (first | apply kn_ | apply kd_ | apply ka_)); exact B0.out⟩, ⟨by (with_reducible repeat (first | apply kn_ | apply kd_ | apply ka_)); exact B1.out⟩, ⟨by repeat (first | (with_reducible first | exact HB.out | apply ba_ | apply bn_ | apply bd_ | refine bs_ ?_ B8.out | refine bs_ ?_ B9.out) | exact HB.out)⟩⟩
 case round =>
  clear H'
  try clear c1
  try clear p2
  try clear c5
  try clear Fj
  try clear Fk
  obtain ⟨B2, rfl, HA, Gd, B0, B1, HB⟩ := hrel
  cases gk with
  | zero => exact absurd HA.out (by simp [r33_nodes.l0])
  | succ k1 =>
   have H := HA.out
   clear HA
   simp only [r33_nodes.l0] at H
   by_cases c7 : B2 < (B4.length : Int)
   ·rw [if_pos c7] at H
    have Fl : decide (B2 < (B4.length : Int)) = true := decide_eq_true c7
    clear c7
    by_cases c8 : 0 ≤ B2
    ·rw [if_pos c8] at H
     have J6 : decide (0 ≤ B2) = true := decide_eq_true c8
     clear c8
     by_cases c9 : B2 < (B4.length : Int)
     ·rw [if_pos c9] at H
      have J7 : decide (B2 < (B4.length : Int)) = true := decide_eq_true c9
      clear c9
      obtain ⟨L8, L9, H⟩ := bes_ H
      try dsimp only at H
      by_cases J8 : L8 = true
      subst J8
      rw [if_pos rfl] at H
      obtain ⟨La, M6, H⟩ := bes_ H
      try dsimp only at H
      by_cases J9 : La = true
      ·subst J9
       rw [if_pos rfl] at H
       have H' := am_ H
       clear H
       have E9 : 0 ≤ (B2 : Int) := of_decide_eq_true (by first | (with_reducible assumption) | assumption)
       have Ea : B2 < (B4.length : Int) := of_decide_eq_true (by first | (with_reducible assumption) | assumption)
       obtain ⟨El, Ja, D1, D2, D3, D4⟩ := at_T74 G9.out B2 E9 Ea
       cases Ja
       replace D1 := (HB.out.cell (World.block_lt_of_cell? w _ D1)).trans D1
       replace D2 := (HB.out.cell (World.block_lt_of_cell? w _ D2)).trans D2
       replace D3 := (HB.out.cell (World.block_lt_of_cell? w _ D3)).trans D3
       replace D4 := (HB.out.cell (World.block_lt_of_cell? w _ D4)).trans D4
       replace E9 := eq_true E9
       replace Ea := eq_true Ea
       go_wp2_with (first | ((with_reducible refine gate_dst (N := 6) rfl ?_); refine bxe_ 6 74 #[.int .i64 0, .int .i64 0, .int .i64 0, .string (⟨#[]⟩ : ByteArray)] ?_; intro Ed hg w14 hbox hb; have Bt := am_ (hbox); have Ee := gwk_ HB hg; have Dv := Ee; replace HB := bst_ HB hb; have Bb := nbk_ B0 hg; have Dh := nbs_ Bb; replace B0 := bkb_ B0 hb; have Bc := nbk_ B1 hg; have Di := nbs_ Bc; replace B1 := bkb_ B1 hb; clear hb hbox hg; have M7 := Dh.out; have M8 := Bb.out; have M9 := Di.out; have Ma := Bc.out; have Eq := cells_4 Bt.out; have Er := frozen_4 Bt.out; have Mb := B7.out; have Mc := Ba.out; have Es := cells_11 B0.out; have Et := frozen_11 B0.out) | ((with_reducible refine gate_callee (f := 43) rfl ?_); refine gom_ (some 23) Try.func43 (r33_node.calls Bj Bk Bl Bm Bn Bo Bp Bq Br Bs _ _ B6 ((rd_T74 B4 B2).f0) _ _ ?side1 Bw.out L9.out) ?_; (case side1 => exact Kd.C_below Bv.out (by repeat (first | (with_reducible first | exact HB.out | apply ba_ | apply bn_ | apply bd_ | refine bs_ ?_ B8.out | refine bs_ ?_ B9.out | refine bs_ ?_ Dv.out) | exact HB.out))); rintro e w20 ⟨rfl, hb⟩; refine ⟨_, rfl, ?_⟩; replace B0 := am_ (blk_below (g := Dd) (o := .cells #[.int .i64 Bj, .int .i64 Bk, .int .i64 Bl, .int .i64 Bm, .int .i64 Bn, .int .i64 Bo, .int .i64 Bp, .int .i64 Bq, .int .i64 Br, .int .i64 Bs, .slice D5 B6.length D6] 24 (0, 0)) (by (iterate 4 ((with_reducible repeat (first | apply kn_ | apply kd_ | apply ka_)); refine blk_far ?_ Bb.out _)); (with_reducible repeat (first | apply kn_ | apply kd_ | apply ka_)); exact B0.out) hb); replace B1 := am_ (blk_below (g := De) (o := .cells #[.slice Dn Db.length Do, .slice Dp Dc.length Dq, .slice (some El) B4.length Dr, .slice Dx Bf.length Ds, .slice E0 B5.length Dt, .slice Dy Bg.length Du] 44 (0, 0)) (by (iterate 4 ((with_reducible repeat (first | apply kn_ | apply kd_ | apply ka_)); refine blk_far ?_ Bc.out _)); (with_reducible repeat (first | apply kn_ | apply kd_ | apply ka_)); exact B1.out) hb); replace Bt := am_ (blk_below (g := Ed) (o := .cells #[.int .i64 ((rd_T74 B4 B2).f0), .int .i64 ((rd_T74 B4 B2).f1), .int .i64 ((rd_T74 B4 B2).f2), .string ((rd_T74 B4 B2).f3)] 74 (0, 0)) (by (with_reducible repeat (first | apply kn_ | apply kd_ | apply ka_)); refine blk_put (cs := #[.int .i64 ((rd_T74 B4 B2).f0), .int .i64 ((rd_T74 B4 B2).f1), .int .i64 ((rd_T74 B4 B2).f2), .string (⟨#[]⟩ : ByteArray)]) ?_ 3 _ rfl; (with_reducible repeat (first | apply kn_ | apply kd_ | apply ka_)); refine blk_put (cs := #[.int .i64 ((rd_T74 B4 B2).f0), .int .i64 ((rd_T74 B4 B2).f1), .int .i64 0, .string (⟨#[]⟩ : ByteArray)]) ?_ 2 _ rfl; (with_reducible repeat (first | apply kn_ | apply kd_ | apply ka_)); refine blk_put (cs := #[.int .i64 ((rd_T74 B4 B2).f0), .int .i64 0, .int .i64 0, .string (⟨#[]⟩ : ByteArray)]) ?_ 1 _ rfl; (with_reducible repeat (first | apply kn_ | apply kd_ | apply ka_)); refine blk_put (cs := #[.int .i64 0, .int .i64 0, .int .i64 0, .string (⟨#[]⟩ : ByteArray)]) ?_ 0 _ rfl; (with_reducible repeat (first | apply kn_ | apply kd_ | apply ka_)); exact Bt.out) hb); replace HB := am_ (below_step (by repeat (first | (with_reducible first | exact HB.out | apply ba_ | apply bn_ | apply bd_ | refine bs_ ?_ B8.out | refine bs_ ?_ B9.out | refine bs_ ?_ Dv.out) | exact HB.out)) hb); (try clear hb); have Eu := cells_11 B0.out; have Ev := frozen_11 B0.out; have Ew := cells_4 Bt.out; have Ex := frozen_4 Bt.out) | (go_at_call 43; (with_reducible refine (r33_node.calls Bj Bk Bl Bm Bn Bo Bp Bq Br Bs _ _ B6 ((rd_T74 B4 B2).f1) _ _ (Kd.C_below Bv.out HB.out) Bw.out M6.out).mono ?_); rintro e w23 ⟨rfl, hb⟩; replace B0 := bkb_ B0 hb; replace B1 := bkb_ B1 hb; replace Bt := bkb_ Bt hb; replace HB := bst_ HB hb; (try clear hb)))
       go_roundg k1
       case measure => have := Gd.out; omega
       case rel => exact ⟨(wrap64 (B2 + 1)), (by first | rfl | (simp; done) | (simp [*]; done)), H', ⟨by have := Gd.out; omega⟩, ⟨by (with_reducible repeat (first | apply kn_ | apply kd_ | apply ka_)); exact B0.out⟩, ⟨by (with_reducible repeat (first | apply kn_ | apply kd_ | apply ka_)); exact B1.out⟩, ⟨by repeat (first | (with_reducible first | exact HB.out | apply ba_ | apply bn_ | apply bd_ | refine bs_ ?_ B8.out | refine bs_ ?_ B9.out | refine bs_ ?_ Dv.out) | exact HB.out)⟩⟩
      replace J9 := Bool.eq_false_iff.mpr J9
      subst J9
      rw [if_neg (show ¬ (false = true) by decide)] at H
      obtain rfl := Option.some.inj H
      rotate_left
      replace J8 := Bool.eq_false_iff.mpr J8
      subst J8
      rw [if_neg (show ¬ (false = true) by decide)] at H
      obtain rfl := Option.some.inj H
      rotate_left
      all_goals
       have E9 : 0 ≤ (B2 : Int) := of_decide_eq_true (by first | (with_reducible assumption) | assumption)
       have Ea : B2 < (B4.length : Int) := of_decide_eq_true (by first | (with_reducible assumption) | assumption)
       obtain ⟨El, Ja, D1, D2, D3, D4⟩ := at_T74 G9.out B2 E9 Ea
       cases Ja
       replace D1 := (HB.out.cell (World.block_lt_of_cell? w _ D1)).trans D1
       replace D2 := (HB.out.cell (World.block_lt_of_cell? w _ D2)).trans D2
       replace D3 := (HB.out.cell (World.block_lt_of_cell? w _ D3)).trans D3
       replace D4 := (HB.out.cell (World.block_lt_of_cell? w _ D4)).trans D4
       replace E9 := eq_true E9
       replace Ea := eq_true Ea
      ·go_wp2_with (first | ((with_reducible refine gate_dst (N := 6) rfl ?_); refine bxe_ 6 74 #[.int .i64 0, .int .i64 0, .int .i64 0, .string (⟨#[]⟩ : ByteArray)] ?_; intro Ed hg w24 hbox hb; have Bt := am_ (hbox); have Ee := gwk_ HB hg; have Dv := Ee; replace HB := bst_ HB hb; have Bb := nbk_ B0 hg; have Dh := nbs_ Bb; replace B0 := bkb_ B0 hb; have Bc := nbk_ B1 hg; have Di := nbs_ Bc; replace B1 := bkb_ B1 hb; clear hb hbox hg; have Md := Dh.out; have Me := Bb.out; have Mf := Di.out; have Mg := Bc.out; have Ey := cells_4 Bt.out; have Ez := frozen_4 Bt.out; have Mh := B7.out; have Mi := Ba.out; have F0 := cells_11 B0.out; have F1 := frozen_11 B0.out) | ((with_reducible refine gate_callee (f := 43) rfl ?_); refine gom_ (some 23) Try.func43 (r33_node.calls Bj Bk Bl Bm Bn Bo Bp Bq Br Bs _ _ B6 ((rd_T74 B4 B2).f0) _ _ ?side1 Bw.out L9.out) ?_; (case side1 => exact Kd.C_below Bv.out (by repeat (first | (with_reducible first | exact HB.out | apply ba_ | apply bn_ | apply bd_ | refine bs_ ?_ B8.out | refine bs_ ?_ B9.out | refine bs_ ?_ Dv.out) | exact HB.out))); rintro e w30 ⟨rfl, hb⟩; refine ⟨_, rfl, ?_⟩; replace B0 := am_ (blk_below (g := Dd) (o := .cells #[.int .i64 Bj, .int .i64 Bk, .int .i64 Bl, .int .i64 Bm, .int .i64 Bn, .int .i64 Bo, .int .i64 Bp, .int .i64 Bq, .int .i64 Br, .int .i64 Bs, .slice D5 B6.length D6] 24 (0, 0)) (by (iterate 4 ((with_reducible repeat (first | apply kn_ | apply kd_ | apply ka_)); refine blk_far ?_ Bb.out _)); (with_reducible repeat (first | apply kn_ | apply kd_ | apply ka_)); exact B0.out) hb); replace B1 := am_ (blk_below (g := De) (o := .cells #[.slice Dn Db.length Do, .slice Dp Dc.length Dq, .slice (some El) B4.length Dr, .slice Dx Bf.length Ds, .slice E0 B5.length Dt, .slice Dy Bg.length Du] 44 (0, 0)) (by (iterate 4 ((with_reducible repeat (first | apply kn_ | apply kd_ | apply ka_)); refine blk_far ?_ Bc.out _)); (with_reducible repeat (first | apply kn_ | apply kd_ | apply ka_)); exact B1.out) hb); replace Bt := am_ (blk_below (g := Ed) (o := .cells #[.int .i64 ((rd_T74 B4 B2).f0), .int .i64 ((rd_T74 B4 B2).f1), .int .i64 ((rd_T74 B4 B2).f2), .string ((rd_T74 B4 B2).f3)] 74 (0, 0)) (by (with_reducible repeat (first | apply kn_ | apply kd_ | apply ka_)); refine blk_put (cs := #[.int .i64 ((rd_T74 B4 B2).f0), .int .i64 ((rd_T74 B4 B2).f1), .int .i64 ((rd_T74 B4 B2).f2), .string (⟨#[]⟩ : ByteArray)]) ?_ 3 _ rfl; (with_reducible repeat (first | apply kn_ | apply kd_ | apply ka_)); refine blk_put (cs := #[.int .i64 ((rd_T74 B4 B2).f0), .int .i64 ((rd_T74 B4 B2).f1), .int .i64 0, .string (⟨#[]⟩ : ByteArray)]) ?_ 2 _ rfl; (with_reducible repeat (first | apply kn_ | apply kd_ | apply ka_)); refine blk_put (cs := #[.int .i64 ((rd_T74 B4 B2).f0), .int .i64 0, .int .i64 0, .string (⟨#[]⟩ : ByteArray)]) ?_ 1 _ rfl; (with_reducible repeat (first | apply kn_ | apply kd_ | apply ka_)); refine blk_put (cs := #[.int .i64 0, .int .i64 0, .int .i64 0, .string (⟨#[]⟩ : ByteArray)]) ?_ 0 _ rfl; (with_reducible repeat (first | apply kn_ | apply kd_ | apply ka_)); exact Bt.out) hb); replace HB := am_ (below_step (by repeat (first | (with_reducible first | exact HB.out | apply ba_ | apply bn_ | apply bd_ | refine bs_ ?_ B8.out | refine bs_ ?_ B9.out | refine bs_ ?_ Dv.out) | exact HB.out)) hb); (try clear hb); have F2 := cells_11 B0.out; have F3 := frozen_11 B0.out; have F4 := cells_4 Bt.out; have F5 := frozen_4 Bt.out) | (go_at_call 43; (with_reducible refine (r33_node.calls Bj Bk Bl Bm Bn Bo Bp Bq Br Bs _ _ B6 ((rd_T74 B4 B2).f1) _ _ (Kd.C_below Bv.out HB.out) Bw.out M6.out).mono ?_); rintro e w33 ⟨rfl, hb⟩; replace B0 := bkb_ B0 hb; replace B1 := bkb_ B1 hb; replace Bt := bkb_ Bt hb; replace HB := bst_ HB hb; (try clear hb)))
       go_ret
       exact ⟨by first | rfl | (simp [*] <;> rfl), by repeat (first | (with_reducible first | exact HB.out | apply ba_ | apply bn_ | apply bd_ | refine bs_ ?_ B8.out | refine bs_ ?_ B9.out | refine bs_ ?_ Dv.out) | exact HB.out)⟩
      ·go_wp2_with (first | ((with_reducible refine gate_dst (N := 6) rfl ?_); refine bxe_ 6 74 #[.int .i64 0, .int .i64 0, .int .i64 0, .string (⟨#[]⟩ : ByteArray)] ?_; intro Ed hg w34 hbox hb; have Bt := am_ (hbox); have Ee := gwk_ HB hg; have Dv := Ee; replace HB := bst_ HB hb; have Bb := nbk_ B0 hg; have Dh := nbs_ Bb; replace B0 := bkb_ B0 hb; have Bc := nbk_ B1 hg; have Di := nbs_ Bc; replace B1 := bkb_ B1 hb; clear hb hbox hg; have Mj := Dh.out; have Mk := Bb.out; have Ml := Di.out; have Mm := Bc.out; have F6 := cells_4 Bt.out; have F7 := frozen_4 Bt.out; have Mn := B7.out; have Mo := Ba.out; have F8 := cells_11 B0.out; have F9 := frozen_11 B0.out) | ((with_reducible refine gate_callee (f := 43) rfl ?_); refine gom_ (some 23) Try.func43 (r33_node.calls Bj Bk Bl Bm Bn Bo Bp Bq Br Bs _ _ B6 ((rd_T74 B4 B2).f0) _ _ ?side1 Bw.out L9.out) ?_; (case side1 => exact Kd.C_below Bv.out (by repeat (first | (with_reducible first | exact HB.out | apply ba_ | apply bn_ | apply bd_ | refine bs_ ?_ B8.out | refine bs_ ?_ B9.out | refine bs_ ?_ Dv.out) | exact HB.out))); rintro e w40 ⟨rfl, hb⟩; refine ⟨_, rfl, ?_⟩; replace B0 := am_ (blk_below (g := Dd) (o := .cells #[.int .i64 Bj, .int .i64 Bk, .int .i64 Bl, .int .i64 Bm, .int .i64 Bn, .int .i64 Bo, .int .i64 Bp, .int .i64 Bq, .int .i64 Br, .int .i64 Bs, .slice D5 B6.length D6] 24 (0, 0)) (by (iterate 4 ((with_reducible repeat (first | apply kn_ | apply kd_ | apply ka_)); refine blk_far ?_ Bb.out _)); (with_reducible repeat (first | apply kn_ | apply kd_ | apply ka_)); exact B0.out) hb); replace B1 := am_ (blk_below (g := De) (o := .cells #[.slice Dn Db.length Do, .slice Dp Dc.length Dq, .slice (some El) B4.length Dr, .slice Dx Bf.length Ds, .slice E0 B5.length Dt, .slice Dy Bg.length Du] 44 (0, 0)) (by (iterate 4 ((with_reducible repeat (first | apply kn_ | apply kd_ | apply ka_)); refine blk_far ?_ Bc.out _)); (with_reducible repeat (first | apply kn_ | apply kd_ | apply ka_)); exact B1.out) hb); replace Bt := am_ (blk_below (g := Ed) (o := .cells #[.int .i64 ((rd_T74 B4 B2).f0), .int .i64 ((rd_T74 B4 B2).f1), .int .i64 ((rd_T74 B4 B2).f2), .string ((rd_T74 B4 B2).f3)] 74 (0, 0)) (by (with_reducible repeat (first | apply kn_ | apply kd_ | apply ka_)); refine blk_put (cs := #[.int .i64 ((rd_T74 B4 B2).f0), .int .i64 ((rd_T74 B4 B2).f1), .int .i64 ((rd_T74 B4 B2).f2), .string (⟨#[]⟩ : ByteArray)]) ?_ 3 _ rfl; (with_reducible repeat (first | apply kn_ | apply kd_ | apply ka_)); refine blk_put (cs := #[.int .i64 ((rd_T74 B4 B2).f0), .int .i64 ((rd_T74 B4 B2).f1), .int .i64 0, .string (⟨#[]⟩ : ByteArray)]) ?_ 2 _ rfl; (with_reducible repeat (first | apply kn_ | apply kd_ | apply ka_)); refine blk_put (cs := #[.int .i64 ((rd_T74 B4 B2).f0), .int .i64 0, .int .i64 0, .string (⟨#[]⟩ : ByteArray)]) ?_ 1 _ rfl; (with_reducible repeat (first | apply kn_ | apply kd_ | apply ka_)); refine blk_put (cs := #[.int .i64 0, .int .i64 0, .int .i64 0, .string (⟨#[]⟩ : ByteArray)]) ?_ 0 _ rfl; (with_reducible repeat (first | apply kn_ | apply kd_ | apply ka_)); exact Bt.out) hb); replace HB := am_ (below_step (by repeat (first | (with_reducible first | exact HB.out | apply ba_ | apply bn_ | apply bd_ | refine bs_ ?_ B8.out | refine bs_ ?_ B9.out | refine bs_ ?_ Dv.out) | exact HB.out)) hb); (try clear hb)))
       go_ret
       exact ⟨by first | rfl | (simp [*] <;> rfl), by repeat (first | (with_reducible first | exact HB.out | apply ba_ | apply bn_ | apply bd_ | refine bs_ ?_ B8.out | refine bs_ ?_ B9.out | refine bs_ ?_ Dv.out) | exact HB.out)⟩
     ·rw [if_neg c9] at H
      exact absurd H (by simp)
    ·rw [if_neg c8] at H
     exact absurd H (by simp)
   ·rw [if_neg c7] at H
    have Fl : decide (B2 < (B4.length : Int)) = false := decide_eq_false c7
    clear c7
    have H' := am_ H
    clear H
    have Mp := Ba.out
    have Mq := B7.out
    have Fa := cells_6 B1.out
    have Fb := frozen_6 B1.out
    go_wp2
    go_loopg [36] k1 (fun kq v36 w' => ∃ (B3 : Int), v36 = .int .i64 B3 ∧ Aside0 (r33_nodes.l1 kq B5 (B5.length : Int) B3 Bj Bk Bl Bm Bn Bo Bp Bq Br Bs B6 Db Dc B4 Bf B5 Bg = some r) ∧ Aside0 (kq ≤ k1) ∧ Aside0 (w'.heap[Dd]? = some (.cells #[.int .i64 Bj, .int .i64 Bk, .int .i64 Bl, .int .i64 Bm, .int .i64 Bn, .int .i64 Bo, .int .i64 Bp, .int .i64 Bq, .int .i64 Br, .int .i64 Bs, (.slice D5 B6.length D6)] 24 (0, 0))) ∧ Aside0 (w'.heap[De]? = some (.cells #[(.slice Dn Db.length Do), (.slice Dp Dc.length Dq), (.slice Dz B4.length Dr), (.slice Dx Bf.length Ds), (.slice E0 B5.length Dt), (.slice Dy Bg.length Du)] 44 (0, 0))) ∧ Aside0 (Below w.heap.size w w'))
    case atStart => exact ⟨(0), (by first | rfl | (simp; done) | (simp [*]; done)), H', ⟨Nat.le_refl _⟩, ⟨by (with_reducible repeat (first | apply kn_ | apply kd_ | apply ka_)); exact B0.out⟩, ⟨by (with_reducible repeat (first | apply kn_ | apply kd_ | apply ka_)); exact B1.out⟩, ⟨by repeat (first | (with_reducible first | exact HB.out | apply ba_ | apply bn_ | apply bd_ | refine bs_ ?_ B8.out | refine bs_ ?_ B9.out) | exact HB.out)⟩⟩
    case round =>
     clear H'
     try clear c1
     try clear c2
     try clear p2
     try clear c3
     try clear c4
     try clear p4
     try clear q4
     try clear hx4
     try clear c5
     try clear p6
     try clear c7
     try clear Fl
     try clear c8
     try clear J6
     try clear c9
     try clear J7
     try clear J8
     try clear J9
     try clear c15
     try clear c16
     try clear c18
     try clear c25
     try clear c26
     try clear c28
     try clear c35
     try clear c36
     try clear c38
     try clear p40
     try clear q40
     try clear hx40
     try clear c41
     try clear Eq
     try clear Es
     try clear Eu
     try clear Ew
     try clear Ey
     try clear F0
     try clear F2
     try clear F4
     try clear F6
     try clear F8
     try clear Fa
     try clear Fj
     try clear Er
     try clear Et
     try clear Ev
     try clear Ex
     try clear Ez
     try clear F1
     try clear F3
     try clear F5
     try clear F7
     try clear F9
     try clear Fb
     try clear Fk
     try clear D1
     try clear D2
     try clear D3
     try clear D4
     try clear p2
     try clear E9
     try clear Ea
     obtain ⟨B3, rfl, HA, Jg, B0, B1, HB⟩ := hrel
     cases gk with
     | zero => exact absurd HA.out (by simp [r33_nodes.l1])
     | succ k2 =>
      have H := HA.out
      clear HA
      simp only [r33_nodes.l1] at H
      by_cases Ge : B3 < (B5.length : Int)
      ·rw [if_pos Ge] at H
       have Fc : decide (B3 < (B5.length : Int)) = true := decide_eq_true Ge
       clear Ge
       by_cases Jh : 0 ≤ B3
       ·rw [if_pos Jh] at H
        have Gf : decide (0 ≤ B3) = true := decide_eq_true Jh
        clear Jh
        by_cases Ji : B3 < (B5.length : Int)
        ·rw [if_pos Ji] at H
         have Gg : decide (B3 < (B5.length : Int)) = true := decide_eq_true Ji
         clear Ji
         obtain ⟨Lb, Lc, H⟩ := bes_ H
         try dsimp only at H
         by_cases Jj : Lb = true
         subst Jj
         rw [if_pos rfl] at H
         obtain ⟨Ld, Mr, H⟩ := bes_ H
         try dsimp only at H
         by_cases Jk : Ld = true
         ·subst Jk
          rw [if_pos rfl] at H
          have H' := am_ H
          clear H
          have Eb : 0 ≤ (B3 : Int) := of_decide_eq_true (by first | (with_reducible assumption) | assumption)
          have Ec : B3 < (B5.length : Int) := of_decide_eq_true (by first | (with_reducible assumption) | assumption)
          obtain ⟨Em, Jb, D7, D8, D9, Da⟩ := at_T74 Gb.out B3 Eb Ec
          cases Jb
          replace D7 := (HB.out.cell (World.block_lt_of_cell? w _ D7)).trans D7
          replace D8 := (HB.out.cell (World.block_lt_of_cell? w _ D8)).trans D8
          replace D9 := (HB.out.cell (World.block_lt_of_cell? w _ D9)).trans D9
          replace Da := (HB.out.cell (World.block_lt_of_cell? w _ Da)).trans Da
          replace Eb := eq_true Eb
          replace Ec := eq_true Ec
          go_wp2_with (first | ((with_reducible refine gate_dst (N := 8) rfl ?_); refine bxe_ 8 74 #[.int .i64 0, .int .i64 0, .int .i64 0, .string (⟨#[]⟩ : ByteArray)] ?_; intro Ef hg w50 hbox hb; have Bu := am_ (hbox); have Eg := gwk_ HB hg; have Dw := Eg; replace HB := bst_ HB hb; have Bd := nbk_ B0 hg; have Dj := nbs_ Bd; replace B0 := bkb_ B0 hb; have Be := nbk_ B1 hg; have Dk := nbs_ Be; replace B1 := bkb_ B1 hb; clear hb hbox hg; have Ms := Dj.out; have Mt := Bd.out; have Mu := Dk.out; have Mv := Be.out; have Gh := cells_4 Bu.out; have Gi := frozen_4 Bu.out; have Mw := B7.out; have Mx := Ba.out; have Gj := cells_11 B0.out; have Gk := frozen_11 B0.out) | ((with_reducible refine gate_callee (f := 43) rfl ?_); refine gom_ (some 43) Try.func43 (r33_node.calls Bj Bk Bl Bm Bn Bo Bp Bq Br Bs _ _ B6 ((rd_T74 B5 B3).f0) _ _ ?side1 Bw.out Lc.out) ?_; (case side1 => exact Kd.C_below Bv.out (by repeat (first | (with_reducible first | exact HB.out | apply ba_ | apply bn_ | apply bd_ | refine bs_ ?_ B8.out | refine bs_ ?_ B9.out | refine bs_ ?_ Dw.out) | exact HB.out))); rintro e w56 ⟨rfl, hb⟩; refine ⟨_, rfl, ?_⟩; replace B0 := am_ (blk_below (g := Dd) (o := .cells #[.int .i64 Bj, .int .i64 Bk, .int .i64 Bl, .int .i64 Bm, .int .i64 Bn, .int .i64 Bo, .int .i64 Bp, .int .i64 Bq, .int .i64 Br, .int .i64 Bs, .slice D5 B6.length D6] 24 (0, 0)) (by (iterate 4 ((with_reducible repeat (first | apply kn_ | apply kd_ | apply ka_)); refine blk_far ?_ Bd.out _)); (with_reducible repeat (first | apply kn_ | apply kd_ | apply ka_)); exact B0.out) hb); replace B1 := am_ (blk_below (g := De) (o := .cells #[.slice Dn Db.length Do, .slice Dp Dc.length Dq, .slice Dz B4.length Dr, .slice Dx Bf.length Ds, .slice (some Em) B5.length Dt, .slice Dy Bg.length Du] 44 (0, 0)) (by (iterate 4 ((with_reducible repeat (first | apply kn_ | apply kd_ | apply ka_)); refine blk_far ?_ Be.out _)); (with_reducible repeat (first | apply kn_ | apply kd_ | apply ka_)); exact B1.out) hb); replace Bu := am_ (blk_below (g := Ef) (o := .cells #[.int .i64 ((rd_T74 B5 B3).f0), .int .i64 ((rd_T74 B5 B3).f1), .int .i64 ((rd_T74 B5 B3).f2), .string ((rd_T74 B5 B3).f3)] 74 (0, 0)) (by (with_reducible repeat (first | apply kn_ | apply kd_ | apply ka_)); refine blk_put (cs := #[.int .i64 ((rd_T74 B5 B3).f0), .int .i64 ((rd_T74 B5 B3).f1), .int .i64 ((rd_T74 B5 B3).f2), .string (⟨#[]⟩ : ByteArray)]) ?_ 3 _ rfl; (with_reducible repeat (first | apply kn_ | apply kd_ | apply ka_)); refine blk_put (cs := #[.int .i64 ((rd_T74 B5 B3).f0), .int .i64 ((rd_T74 B5 B3).f1), .int .i64 0, .string (⟨#[]⟩ : ByteArray)]) ?_ 2 _ rfl; (with_reducible repeat (first | apply kn_ | apply kd_ | apply ka_)); refine blk_put (cs := #[.int .i64 ((rd_T74 B5 B3).f0), .int .i64 0, .int .i64 0, .string (⟨#[]⟩ : ByteArray)]) ?_ 1 _ rfl; (with_reducible repeat (first | apply kn_ | apply kd_ | apply ka_)); refine blk_put (cs := #[.int .i64 0, .int .i64 0, .int .i64 0, .string (⟨#[]⟩ : ByteArray)]) ?_ 0 _ rfl; (with_reducible repeat (first | apply kn_ | apply kd_ | apply ka_)); exact Bu.out) hb); replace HB := am_ (below_step (by repeat (first | (with_reducible first | exact HB.out | apply ba_ | apply bn_ | apply bd_ | refine bs_ ?_ B8.out | refine bs_ ?_ B9.out | refine bs_ ?_ Dw.out) | exact HB.out)) hb); (try clear hb); have Gl := cells_11 B0.out; have Gm := frozen_11 B0.out; have Gp := cells_4 Bu.out; have Gq := frozen_4 Bu.out) | (go_at_call 43; (with_reducible refine (r33_node.calls Bj Bk Bl Bm Bn Bo Bp Bq Br Bs _ _ B6 ((rd_T74 B5 B3).f1) _ _ (Kd.C_below Bv.out HB.out) Bw.out Mr.out).mono ?_); rintro e w59 ⟨rfl, hb⟩; replace B0 := bkb_ B0 hb; replace B1 := bkb_ B1 hb; replace Bu := bkb_ Bu hb; replace HB := bst_ HB hb; (try clear hb)))
          go_roundg k2
          case measure => have := Gd.out; have := Jg.out; omega
          case rel => exact ⟨(wrap64 (B3 + 1)), (by first | rfl | (simp; done) | (simp [*]; done)), H', ⟨by have := Gd.out; have := Jg.out; omega⟩, ⟨by (with_reducible repeat (first | apply kn_ | apply kd_ | apply ka_)); exact B0.out⟩, ⟨by (with_reducible repeat (first | apply kn_ | apply kd_ | apply ka_)); exact B1.out⟩, ⟨by repeat (first | (with_reducible first | exact HB.out | apply ba_ | apply bn_ | apply bd_ | refine bs_ ?_ B8.out | refine bs_ ?_ B9.out | refine bs_ ?_ Dw.out) | exact HB.out)⟩⟩
         replace Jk := Bool.eq_false_iff.mpr Jk
         subst Jk
         rw [if_neg (show ¬ (false = true) by decide)] at H
         obtain rfl := Option.some.inj H
         rotate_left
         replace Jj := Bool.eq_false_iff.mpr Jj
         subst Jj
         rw [if_neg (show ¬ (false = true) by decide)] at H
         obtain rfl := Option.some.inj H
         rotate_left
         all_goals
          have Eb : 0 ≤ (B3 : Int) := of_decide_eq_true (by first | (with_reducible assumption) | assumption)
          have Ec : B3 < (B5.length : Int) := of_decide_eq_true (by first | (with_reducible assumption) | assumption)
          obtain ⟨Em, Jb, D7, D8, D9, Da⟩ := at_T74 Gb.out B3 Eb Ec
          cases Jb
          replace D7 := (HB.out.cell (World.block_lt_of_cell? w _ D7)).trans D7
          replace D8 := (HB.out.cell (World.block_lt_of_cell? w _ D8)).trans D8
          replace D9 := (HB.out.cell (World.block_lt_of_cell? w _ D9)).trans D9
          replace Da := (HB.out.cell (World.block_lt_of_cell? w _ Da)).trans Da
          replace Eb := eq_true Eb
          replace Ec := eq_true Ec
         ·go_wp2_with (first | ((with_reducible refine gate_dst (N := 8) rfl ?_); refine bxe_ 8 74 #[.int .i64 0, .int .i64 0, .int .i64 0, .string (⟨#[]⟩ : ByteArray)] ?_; intro Ef hg w60 hbox hb; have Bu := am_ (hbox); have Eg := gwk_ HB hg; have Dw := Eg; replace HB := bst_ HB hb; have Bd := nbk_ B0 hg; have Dj := nbs_ Bd; replace B0 := bkb_ B0 hb; have Be := nbk_ B1 hg; have Dk := nbs_ Be; replace B1 := bkb_ B1 hb; clear hb hbox hg; have My := Dj.out; have Mz := Bd.out; have O0 := Dk.out; have O1 := Be.out; have Gr := cells_4 Bu.out; have Gs := frozen_4 Bu.out; have O2 := B7.out; have O3 := Ba.out; have Gt := cells_11 B0.out; have Gu := frozen_11 B0.out) | ((with_reducible refine gate_callee (f := 43) rfl ?_); refine gom_ (some 43) Try.func43 (r33_node.calls Bj Bk Bl Bm Bn Bo Bp Bq Br Bs _ _ B6 ((rd_T74 B5 B3).f0) _ _ ?side1 Bw.out Lc.out) ?_; (case side1 => exact Kd.C_below Bv.out (by repeat (first | (with_reducible first | exact HB.out | apply ba_ | apply bn_ | apply bd_ | refine bs_ ?_ B8.out | refine bs_ ?_ B9.out | refine bs_ ?_ Dw.out) | exact HB.out))); rintro e w66 ⟨rfl, hb⟩; refine ⟨_, rfl, ?_⟩; replace B0 := am_ (blk_below (g := Dd) (o := .cells #[.int .i64 Bj, .int .i64 Bk, .int .i64 Bl, .int .i64 Bm, .int .i64 Bn, .int .i64 Bo, .int .i64 Bp, .int .i64 Bq, .int .i64 Br, .int .i64 Bs, .slice D5 B6.length D6] 24 (0, 0)) (by (iterate 4 ((with_reducible repeat (first | apply kn_ | apply kd_ | apply ka_)); refine blk_far ?_ Bd.out _)); (with_reducible repeat (first | apply kn_ | apply kd_ | apply ka_)); exact B0.out) hb); replace B1 := am_ (blk_below (g := De) (o := .cells #[.slice Dn Db.length Do, .slice Dp Dc.length Dq, .slice Dz B4.length Dr, .slice Dx Bf.length Ds, .slice (some Em) B5.length Dt, .slice Dy Bg.length Du] 44 (0, 0)) (by (iterate 4 ((with_reducible repeat (first | apply kn_ | apply kd_ | apply ka_)); refine blk_far ?_ Be.out _)); (with_reducible repeat (first | apply kn_ | apply kd_ | apply ka_)); exact B1.out) hb); replace Bu := am_ (blk_below (g := Ef) (o := .cells #[.int .i64 ((rd_T74 B5 B3).f0), .int .i64 ((rd_T74 B5 B3).f1), .int .i64 ((rd_T74 B5 B3).f2), .string ((rd_T74 B5 B3).f3)] 74 (0, 0)) (by (with_reducible repeat (first | apply kn_ | apply kd_ | apply ka_)); refine blk_put (cs := #[.int .i64 ((rd_T74 B5 B3).f0), .int .i64 ((rd_T74 B5 B3).f1), .int .i64 ((rd_T74 B5 B3).f2), .string (⟨#[]⟩ : ByteArray)]) ?_ 3 _ rfl; (with_reducible repeat (first | apply kn_ | apply kd_ | apply ka_)); refine blk_put (cs := #[.int .i64 ((rd_T74 B5 B3).f0), .int .i64 ((rd_T74 B5 B3).f1), .int .i64 0, .string (⟨#[]⟩ : ByteArray)]) ?_ 2 _ rfl; (with_reducible repeat (first | apply kn_ | apply kd_ | apply ka_)); refine blk_put (cs := #[.int .i64 ((rd_T74 B5 B3).f0), .int .i64 0, .int .i64 0, .string (⟨#[]⟩ : ByteArray)]) ?_ 1 _ rfl; (with_reducible repeat (first | apply kn_ | apply kd_ | apply ka_)); refine blk_put (cs := #[.int .i64 0, .int .i64 0, .int .i64 0, .string (⟨#[]⟩ : ByteArray)]) ?_ 0 _ rfl; (with_reducible repeat (first | apply kn_ | apply kd_ | apply ka_)); exact Bu.out) hb); replace HB := am_ (below_step (by repeat (first | (with_reducible first | exact HB.out | apply ba_ | apply bn_ | apply bd_ | refine bs_ ?_ B8.out | refine bs_ ?_ B9.out | refine bs_ ?_ Dw.out) | exact HB.out)) hb); (try clear hb); have Gv := cells_11 B0.out; have Gw := frozen_11 B0.out; have Gx := cells_4 Bu.out; have Gy := frozen_4 Bu.out) | (go_at_call 43; (with_reducible refine (r33_node.calls Bj Bk Bl Bm Bn Bo Bp Bq Br Bs _ _ B6 ((rd_T74 B5 B3).f1) _ _ (Kd.C_below Bv.out HB.out) Bw.out Mr.out).mono ?_); rintro e w69 ⟨rfl, hb⟩; replace B0 := bkb_ B0 hb; replace B1 := bkb_ B1 hb; replace Bu := bkb_ Bu hb; replace HB := bst_ HB hb; (try clear hb)))
          go_ret
          exact ⟨by first | rfl | (simp [*] <;> rfl), by repeat (first | (with_reducible first | exact HB.out | apply ba_ | apply bn_ | apply bd_ | refine bs_ ?_ B8.out | refine bs_ ?_ B9.out | refine bs_ ?_ Dw.out) | exact HB.out)⟩
         ·go_wp2_with (first | ((with_reducible refine gate_dst (N := 8) rfl ?_); refine bxe_ 8 74 #[.int .i64 0, .int .i64 0, .int .i64 0, .string (⟨#[]⟩ : ByteArray)] ?_; intro Ef hg w70 hbox hb; have Bu := am_ (hbox); have Eg := gwk_ HB hg; have Dw := Eg; replace HB := bst_ HB hb; have Bd := nbk_ B0 hg; have Dj := nbs_ Bd; replace B0 := bkb_ B0 hb; have Be := nbk_ B1 hg; have Dk := nbs_ Be; replace B1 := bkb_ B1 hb; clear hb hbox hg; have O4 := Dj.out; have O5 := Bd.out; have O6 := Dk.out; have O7 := Be.out; have Gz := cells_4 Bu.out; have J0 := frozen_4 Bu.out; have O8 := B7.out; have O9 := Ba.out; have J1 := cells_11 B0.out; have J2 := frozen_11 B0.out) | ((with_reducible refine gate_callee (f := 43) rfl ?_); refine gom_ (some 43) Try.func43 (r33_node.calls Bj Bk Bl Bm Bn Bo Bp Bq Br Bs _ _ B6 ((rd_T74 B5 B3).f0) _ _ ?side1 Bw.out Lc.out) ?_; (case side1 => exact Kd.C_below Bv.out (by repeat (first | (with_reducible first | exact HB.out | apply ba_ | apply bn_ | apply bd_ | refine bs_ ?_ B8.out | refine bs_ ?_ B9.out | refine bs_ ?_ Dw.out) | exact HB.out))); rintro e w76 ⟨rfl, hb⟩; refine ⟨_, rfl, ?_⟩; replace B0 := am_ (blk_below (g := Dd) (o := .cells #[.int .i64 Bj, .int .i64 Bk, .int .i64 Bl, .int .i64 Bm, .int .i64 Bn, .int .i64 Bo, .int .i64 Bp, .int .i64 Bq, .int .i64 Br, .int .i64 Bs, .slice D5 B6.length D6] 24 (0, 0)) (by (iterate 4 ((with_reducible repeat (first | apply kn_ | apply kd_ | apply ka_)); refine blk_far ?_ Bd.out _)); (with_reducible repeat (first | apply kn_ | apply kd_ | apply ka_)); exact B0.out) hb); replace B1 := am_ (blk_below (g := De) (o := .cells #[.slice Dn Db.length Do, .slice Dp Dc.length Dq, .slice Dz B4.length Dr, .slice Dx Bf.length Ds, .slice (some Em) B5.length Dt, .slice Dy Bg.length Du] 44 (0, 0)) (by (iterate 4 ((with_reducible repeat (first | apply kn_ | apply kd_ | apply ka_)); refine blk_far ?_ Be.out _)); (with_reducible repeat (first | apply kn_ | apply kd_ | apply ka_)); exact B1.out) hb); replace Bu := am_ (blk_below (g := Ef) (o := .cells #[.int .i64 ((rd_T74 B5 B3).f0), .int .i64 ((rd_T74 B5 B3).f1), .int .i64 ((rd_T74 B5 B3).f2), .string ((rd_T74 B5 B3).f3)] 74 (0, 0)) (by (with_reducible repeat (first | apply kn_ | apply kd_ | apply ka_)); refine blk_put (cs := #[.int .i64 ((rd_T74 B5 B3).f0), .int .i64 ((rd_T74 B5 B3).f1), .int .i64 ((rd_T74 B5 B3).f2), .string (⟨#[]⟩ : ByteArray)]) ?_ 3 _ rfl; (with_reducible repeat (first | apply kn_ | apply kd_ | apply ka_)); refine blk_put (cs := #[.int .i64 ((rd_T74 B5 B3).f0), .int .i64 ((rd_T74 B5 B3).f1), .int .i64 0, .string (⟨#[]⟩ : ByteArray)]) ?_ 2 _ rfl; (with_reducible repeat (first | apply kn_ | apply kd_ | apply ka_)); refine blk_put (cs := #[.int .i64 ((rd_T74 B5 B3).f0), .int .i64 0, .int .i64 0, .string (⟨#[]⟩ : ByteArray)]) ?_ 1 _ rfl; (with_reducible repeat (first | apply kn_ | apply kd_ | apply ka_)); refine blk_put (cs := #[.int .i64 0, .int .i64 0, .int .i64 0, .string (⟨#[]⟩ : ByteArray)]) ?_ 0 _ rfl; (with_reducible repeat (first | apply kn_ | apply kd_ | apply ka_)); exact Bu.out) hb); replace HB := am_ (below_step (by repeat (first | (with_reducible first | exact HB.out | apply ba_ | apply bn_ | apply bd_ | refine bs_ ?_ B8.out | refine bs_ ?_ B9.out | refine bs_ ?_ Dw.out) | exact HB.out)) hb); (try clear hb)))
          go_ret
          exact ⟨by first | rfl | (simp [*] <;> rfl), by repeat (first | (with_reducible first | exact HB.out | apply ba_ | apply bn_ | apply bd_ | refine bs_ ?_ B8.out | refine bs_ ?_ B9.out | refine bs_ ?_ Dw.out) | exact HB.out)⟩
        ·rw [if_neg Ji] at H
         exact absurd H (by simp)
       ·rw [if_neg Jh] at H
        exact absurd H (by simp)
      ·rw [if_neg Ge] at H
       have Fc : decide (B3 < (B5.length : Int)) = false := decide_eq_false Ge
       clear Ge
       have H' := am_ H
       clear H
       have Oa := Ba.out
       have Ob := B7.out
       have J3 := cells_6 B1.out
       have J4 := frozen_6 B1.out
       go_wp2
       go_loopg [56] k2 (fun kq v56 w' => ∃ (Bh : Int), v56 = .int .i64 Bh ∧ Aside0 (r33_nodes.l2 kq Bf (Bf.length : Int) Bh Bj Bk Bl Bm Bn Bo Bp Bq Br Bs B6 Db Dc B4 Bf B5 Bg = some r) ∧ Aside0 (kq ≤ k2) ∧ Aside0 (w'.heap[Dd]? = some (.cells #[.int .i64 Bj, .int .i64 Bk, .int .i64 Bl, .int .i64 Bm, .int .i64 Bn, .int .i64 Bo, .int .i64 Bp, .int .i64 Bq, .int .i64 Br, .int .i64 Bs, (.slice D5 B6.length D6)] 24 (0, 0))) ∧ Aside0 (w'.heap[De]? = some (.cells #[(.slice Dn Db.length Do), (.slice Dp Dc.length Dq), (.slice Dz B4.length Dr), (.slice Dx Bf.length Ds), (.slice E0 B5.length Dt), (.slice Dy Bg.length Du)] 44 (0, 0))) ∧ Aside0 (Below w.heap.size w w'))
       case atStart => exact ⟨(0), (by first | rfl | (simp; done) | (simp [*]; done)), H', ⟨Nat.le_refl _⟩, ⟨by (with_reducible repeat (first | apply kn_ | apply kd_ | apply ka_)); exact B0.out⟩, ⟨by (with_reducible repeat (first | apply kn_ | apply kd_ | apply ka_)); exact B1.out⟩, ⟨by repeat (first | (with_reducible first | exact HB.out | apply ba_ | apply bn_ | apply bd_ | refine bs_ ?_ B8.out | refine bs_ ?_ B9.out) | exact HB.out)⟩⟩
       case round =>
        clear H'
        try clear c1
        try clear c2
        try clear p2
        try clear c3
        try clear c4
        try clear p4
        try clear q4
        try clear hx4
        try clear c5
        try clear c6
        try clear p6
        try clear c7
        try clear Fl
        try clear c8
        try clear J6
        try clear c9
        try clear J7
        try clear J8
        try clear J9
        try clear c15
        try clear c16
        try clear c18
        try clear c25
        try clear c26
        try clear c28
        try clear c35
        try clear c36
        try clear c38
        try clear p40
        try clear q40
        try clear hx40
        try clear c41
        try clear Ge
        try clear Fc
        try clear Jh
        try clear Gf
        try clear Ji
        try clear Gg
        try clear Jj
        try clear Jk
        try clear c51
        try clear c52
        try clear c54
        try clear c61
        try clear c62
        try clear c64
        try clear p64
        try clear c71
        try clear c72
        try clear c74
        try clear c77
        try clear Eq
        try clear Es
        try clear Eu
        try clear Ew
        try clear Ey
        try clear F0
        try clear F2
        try clear F4
        try clear F6
        try clear F8
        try clear Fa
        try clear Gh
        try clear Gj
        try clear Gl
        try clear Gp
        try clear Gr
        try clear Gt
        try clear Gv
        try clear Gx
        try clear Fj
        try clear Gz
        try clear J1
        try clear J3
        try clear Er
        try clear Et
        try clear Ev
        try clear Ex
        try clear Ez
        try clear F1
        try clear F3
        try clear F5
        try clear F7
        try clear F9
        try clear Fb
        try clear Gi
        try clear Gk
        try clear Gm
        try clear Gq
        try clear Gs
        try clear Gu
        try clear Gw
        try clear Gy
        try clear Fk
        try clear J0
        try clear J2
        try clear J4
        try clear D1
        try clear D2
        try clear D3
        try clear D4
        try clear D7
        try clear D8
        try clear D9
        try clear Da
        try clear p2
        try clear p4
        try clear p40
        try clear E9
        try clear Eb
        try clear p6
        try clear q4
        try clear q40
        try clear Ea
        try clear Ec
        obtain ⟨Bh, rfl, HA, L7, B0, B1, HB⟩ := hrel
        cases gk with
        | zero => exact absurd HA.out (by simp [r33_nodes.l2])
        | succ k3 =>
         have H := HA.out
         clear HA
         simp only [r33_nodes.l2] at H
         by_cases Jc : Bh < (Bf.length : Int)
         ·rw [if_pos Jc] at H
          have J5 : decide (Bh < (Bf.length : Int)) = true := decide_eq_true Jc
          clear Jc
          by_cases Jn : 0 ≤ Bh
          ·rw [if_pos Jn] at H
           have Jo : decide (0 ≤ Bh) = true := decide_eq_true Jn
           clear Jn
           by_cases Jp : Bh < (Bf.length : Int)
           ·rw [if_pos Jp] at H
            have Jq : decide (Bh < (Bf.length : Int)) = true := decide_eq_true Jp
            clear Jp
            obtain ⟨Le, Oc, H⟩ := bes_ H
            try dsimp only at H
            by_cases Jr : Le = true
            ·subst Jr
             rw [if_pos rfl] at H
             have H' := am_ H
             clear H
             have Eh : 0 ≤ (Bh : Int) := of_decide_eq_true (by first | (with_reducible assumption) | assumption)
             have Ei : Bh < (Bf.length : Int) := of_decide_eq_true (by first | (with_reducible assumption) | assumption)
             obtain ⟨Fd, Jd, Df, Dg⟩ := at_T48 Ga.out Bh Eh Ei
             cases Jd
             replace Df := (HB.out.cell (World.block_lt_of_cell? w _ Df)).trans Df
             replace Dg := (HB.out.cell (World.block_lt_of_cell? w _ Dg)).trans Dg
             replace Eh := eq_true Eh
             replace Ei := eq_true Ei
             go_wp2_with (first | ((with_reducible refine gate_dst (N := 10) rfl ?_); refine bxe_ 10 48 #[.int .i64 0, .string (⟨#[]⟩ : ByteArray)] ?_; intro Fe hg w84 hbox hb; have E1 := am_ (hbox); have Ff := gwk_ HB hg; have E7 := Ff; replace HB := bst_ HB hb; have Bx := nbk_ B0 hg; have E3 := nbs_ Bx; replace B0 := bkb_ B0 hb; have By := nbk_ B1 hg; have E4 := nbs_ By; replace B1 := bkb_ B1 hb; clear hb hbox hg; have Od := E3.out; have Oe := Bx.out; have Of := E4.out; have Og := By.out; obtain ⟨Fm, Fn⟩ := cells_2 E1.out; obtain ⟨Fo, Fp⟩ := frozen_2 E1.out; have Oh := B7.out; have Oi := Ba.out; have Js := cells_11 B0.out; have Jt := frozen_11 B0.out) | ((with_reducible refine gate_callee (f := 43) rfl ?_); refine gom_ (some 63) Try.func43 (r33_node.calls Bj Bk Bl Bm Bn Bo Bp Bq Br Bs _ _ B6 ((rd_T48 Bf Bh).f0) _ _ ?side1 Bw.out Oc.out) ?_; (case side1 => exact Kd.C_below Bv.out (by repeat (first | (with_reducible first | exact HB.out | apply ba_ | apply bn_ | apply bd_ | refine bs_ ?_ B8.out | refine bs_ ?_ B9.out | refine bs_ ?_ E7.out) | exact HB.out))); rintro e w90 ⟨rfl, hb⟩; refine ⟨_, rfl, ?_⟩; replace B0 := am_ (blk_below (g := Dd) (o := .cells #[.int .i64 Bj, .int .i64 Bk, .int .i64 Bl, .int .i64 Bm, .int .i64 Bn, .int .i64 Bo, .int .i64 Bp, .int .i64 Bq, .int .i64 Br, .int .i64 Bs, .slice D5 B6.length D6] 24 (0, 0)) (by (iterate 2 ((with_reducible repeat (first | apply kn_ | apply kd_ | apply ka_)); refine blk_far ?_ Bx.out _)); (with_reducible repeat (first | apply kn_ | apply kd_ | apply ka_)); exact B0.out) hb); replace B1 := am_ (blk_below (g := De) (o := .cells #[.slice Dn Db.length Do, .slice Dp Dc.length Dq, .slice Dz B4.length Dr, .slice (some Fd) Bf.length Ds, .slice E0 B5.length Dt, .slice Dy Bg.length Du] 44 (0, 0)) (by (iterate 2 ((with_reducible repeat (first | apply kn_ | apply kd_ | apply ka_)); refine blk_far ?_ By.out _)); (with_reducible repeat (first | apply kn_ | apply kd_ | apply ka_)); exact B1.out) hb); replace E1 := am_ (blk_below (g := Fe) (o := .cells #[.int .i64 ((rd_T48 Bf Bh).f0), .string ((rd_T48 Bf Bh).f1)] 48 (0, 0)) (by (with_reducible repeat (first | apply kn_ | apply kd_ | apply ka_)); refine blk_put (cs := #[.int .i64 ((rd_T48 Bf Bh).f0), .string (⟨#[]⟩ : ByteArray)]) ?_ 1 _ rfl; (with_reducible repeat (first | apply kn_ | apply kd_ | apply ka_)); refine blk_put (cs := #[.int .i64 0, .string (⟨#[]⟩ : ByteArray)]) ?_ 0 _ rfl; (with_reducible repeat (first | apply kn_ | apply kd_ | apply ka_)); exact E1.out) hb); replace HB := am_ (below_step (by repeat (first | (with_reducible first | exact HB.out | apply ba_ | apply bn_ | apply bd_ | refine bs_ ?_ B8.out | refine bs_ ?_ B9.out | refine bs_ ?_ E7.out) | exact HB.out)) hb); (try clear hb)))
             go_roundg k3
             case measure => have := Gd.out; have := Jg.out; have := L7.out; omega
             case rel => exact ⟨(wrap64 (Bh + 1)), (by first | rfl | (simp; done) | (simp [*]; done)), H', ⟨by have := Gd.out; have := Jg.out; have := L7.out; omega⟩, ⟨by (with_reducible repeat (first | apply kn_ | apply kd_ | apply ka_)); exact B0.out⟩, ⟨by (with_reducible repeat (first | apply kn_ | apply kd_ | apply ka_)); exact B1.out⟩, ⟨by repeat (first | (with_reducible first | exact HB.out | apply ba_ | apply bn_ | apply bd_ | refine bs_ ?_ B8.out | refine bs_ ?_ B9.out | refine bs_ ?_ E7.out) | exact HB.out)⟩⟩
            ·replace Jr := Bool.eq_false_iff.mpr Jr
             subst Jr
             rw [if_neg (show ¬ (false = true) by decide)] at H
             obtain rfl := Option.some.inj H
             have Eh : 0 ≤ (Bh : Int) := of_decide_eq_true (by first | (with_reducible assumption) | assumption)
             have Ei : Bh < (Bf.length : Int) := of_decide_eq_true (by first | (with_reducible assumption) | assumption)
             obtain ⟨Fd, Jd, Df, Dg⟩ := at_T48 Ga.out Bh Eh Ei
             cases Jd
             replace Df := (HB.out.cell (World.block_lt_of_cell? w _ Df)).trans Df
             replace Dg := (HB.out.cell (World.block_lt_of_cell? w _ Dg)).trans Dg
             replace Eh := eq_true Eh
             replace Ei := eq_true Ei
             go_wp2_with (first | ((with_reducible refine gate_dst (N := 10) rfl ?_); refine bxe_ 10 48 #[.int .i64 0, .string (⟨#[]⟩ : ByteArray)] ?_; intro Fe hg w91 hbox hb; have E1 := am_ (hbox); have Ff := gwk_ HB hg; have E7 := Ff; replace HB := bst_ HB hb; have Bx := nbk_ B0 hg; have E3 := nbs_ Bx; replace B0 := bkb_ B0 hb; have By := nbk_ B1 hg; have E4 := nbs_ By; replace B1 := bkb_ B1 hb; clear hb hbox hg; have Oj := E3.out; have Ok := Bx.out; have Ol := E4.out; have Om := By.out; obtain ⟨Fq, Fr⟩ := cells_2 E1.out; obtain ⟨Fs, Ft⟩ := frozen_2 E1.out; have On := B7.out; have Oo := Ba.out; have Ju := cells_11 B0.out; have Jv := frozen_11 B0.out) | ((with_reducible refine gate_callee (f := 43) rfl ?_); refine gom_ (some 63) Try.func43 (r33_node.calls Bj Bk Bl Bm Bn Bo Bp Bq Br Bs _ _ B6 ((rd_T48 Bf Bh).f0) _ _ ?side1 Bw.out Oc.out) ?_; (case side1 => exact Kd.C_below Bv.out (by repeat (first | (with_reducible first | exact HB.out | apply ba_ | apply bn_ | apply bd_ | refine bs_ ?_ B8.out | refine bs_ ?_ B9.out | refine bs_ ?_ E7.out) | exact HB.out))); rintro e w97 ⟨rfl, hb⟩; refine ⟨_, rfl, ?_⟩; replace B0 := am_ (blk_below (g := Dd) (o := .cells #[.int .i64 Bj, .int .i64 Bk, .int .i64 Bl, .int .i64 Bm, .int .i64 Bn, .int .i64 Bo, .int .i64 Bp, .int .i64 Bq, .int .i64 Br, .int .i64 Bs, .slice D5 B6.length D6] 24 (0, 0)) (by (iterate 2 ((with_reducible repeat (first | apply kn_ | apply kd_ | apply ka_)); refine blk_far ?_ Bx.out _)); (with_reducible repeat (first | apply kn_ | apply kd_ | apply ka_)); exact B0.out) hb); replace B1 := am_ (blk_below (g := De) (o := .cells #[.slice Dn Db.length Do, .slice Dp Dc.length Dq, .slice Dz B4.length Dr, .slice (some Fd) Bf.length Ds, .slice E0 B5.length Dt, .slice Dy Bg.length Du] 44 (0, 0)) (by (iterate 2 ((with_reducible repeat (first | apply kn_ | apply kd_ | apply ka_)); refine blk_far ?_ By.out _)); (with_reducible repeat (first | apply kn_ | apply kd_ | apply ka_)); exact B1.out) hb); replace E1 := am_ (blk_below (g := Fe) (o := .cells #[.int .i64 ((rd_T48 Bf Bh).f0), .string ((rd_T48 Bf Bh).f1)] 48 (0, 0)) (by (with_reducible repeat (first | apply kn_ | apply kd_ | apply ka_)); refine blk_put (cs := #[.int .i64 ((rd_T48 Bf Bh).f0), .string (⟨#[]⟩ : ByteArray)]) ?_ 1 _ rfl; (with_reducible repeat (first | apply kn_ | apply kd_ | apply ka_)); refine blk_put (cs := #[.int .i64 0, .string (⟨#[]⟩ : ByteArray)]) ?_ 0 _ rfl; (with_reducible repeat (first | apply kn_ | apply kd_ | apply ka_)); exact E1.out) hb); replace HB := am_ (below_step (by repeat (first | (with_reducible first | exact HB.out | apply ba_ | apply bn_ | apply bd_ | refine bs_ ?_ B8.out | refine bs_ ?_ B9.out | refine bs_ ?_ E7.out) | exact HB.out)) hb); (try clear hb)))
             go_ret
             exact ⟨by first | rfl | (simp [*] <;> rfl), by repeat (first | (with_reducible first | exact HB.out | apply ba_ | apply bn_ | apply bd_ | refine bs_ ?_ B8.out | refine bs_ ?_ B9.out | refine bs_ ?_ E7.out) | exact HB.out)⟩
           ·rw [if_neg Jp] at H
            exact absurd H (by simp)
          ·rw [if_neg Jn] at H
           exact absurd H (by simp)
         ·rw [if_neg Jc] at H
          have J5 : decide (Bh < (Bf.length : Int)) = false := decide_eq_false Jc
          clear Jc
          have H' := am_ H
          clear H
          have Op := Ba.out
          have Oq := B7.out
          have Jw := cells_6 B1.out
          have Jx := frozen_6 B1.out
          go_wp2
          go_loopg [69] k3 (fun kq v69 w' => ∃ (Bi : Int), v69 = .int .i64 Bi ∧ Aside0 (r33_nodes.l3 kq Bg (Bg.length : Int) Bi Bj Bk Bl Bm Bn Bo Bp Bq Br Bs B6 = some r) ∧ Aside0 (kq ≤ k3) ∧ Aside0 (w'.heap[Dd]? = some (.cells #[.int .i64 Bj, .int .i64 Bk, .int .i64 Bl, .int .i64 Bm, .int .i64 Bn, .int .i64 Bo, .int .i64 Bp, .int .i64 Bq, .int .i64 Br, .int .i64 Bs, (.slice D5 B6.length D6)] 24 (0, 0))) ∧ Aside0 (w'.heap[De]? = some (.cells #[(.slice Dn Db.length Do), (.slice Dp Dc.length Dq), (.slice Dz B4.length Dr), (.slice Dx Bf.length Ds), (.slice E0 B5.length Dt), (.slice Dy Bg.length Du)] 44 (0, 0))) ∧ Aside0 (Below w.heap.size w w'))
          case atStart => exact ⟨(0), (by first | rfl | (simp; done) | (simp [*]; done)), H', ⟨Nat.le_refl _⟩, ⟨by (with_reducible repeat (first | apply kn_ | apply kd_ | apply ka_)); exact B0.out⟩, ⟨by (with_reducible repeat (first | apply kn_ | apply kd_ | apply ka_)); exact B1.out⟩, ⟨by repeat (first | (with_reducible first | exact HB.out | apply ba_ | apply bn_ | apply bd_ | refine bs_ ?_ B8.out | refine bs_ ?_ B9.out) | exact HB.out)⟩⟩
          case round =>
           clear H'
           try clear c1
           try clear c2
           try clear p2
           try clear c3
           try clear c4
           try clear p4
           try clear q4
           try clear hx4
           try clear c5
           try clear c6
           try clear p6
           try clear c7
           try clear Fl
           try clear c8
           try clear J6
           try clear c9
           try clear J7
           try clear J8
           try clear J9
           try clear c15
           try clear c16
           try clear c18
           try clear c25
           try clear c26
           try clear c28
           try clear c35
           try clear c36
           try clear c38
           try clear p40
           try clear q40
           try clear hx40
           try clear c41
           try clear p41
           try clear q41
           try clear hx41
           try clear Ge
           try clear Fc
           try clear Jh
           try clear Gf
           try clear Ji
           try clear Gg
           try clear Jj
           try clear Jk
           try clear c51
           try clear c52
           try clear c54
           try clear c61
           try clear c62
           try clear c64
           try clear p64
           try clear c71
           try clear c72
           try clear c74
           try clear c77
           try clear Jc
           try clear J5
           try clear Jn
           try clear Jo
           try clear Jp
           try clear Jq
           try clear Jr
           try clear c85
           try clear c86
           try clear c88
           try clear c92
           try clear c93
           try clear c95
           try clear c98
           try clear Eq
           try clear Es
           try clear Eu
           try clear Ew
           try clear Ey
           try clear F0
           try clear F2
           try clear F4
           try clear F6
           try clear F8
           try clear Fa
           try clear Gh
           try clear Gj
           try clear Gl
           try clear Gp
           try clear Gr
           try clear Gt
           try clear Gv
           try clear Gx
           try clear Fj
           try clear Gz
           try clear J1
           try clear J3
           try clear Fm Fn
           try clear Js
           try clear Fq Fr
           try clear Ju
           try clear Jw
           try clear Er
           try clear Et
           try clear Ev
           try clear Ex
           try clear Ez
           try clear F1
           try clear F3
           try clear F5
           try clear F7
           try clear F9
           try clear Fb
           try clear Gi
           try clear Gk
           try clear Gm
           try clear Gq
           try clear Gs
           try clear Gu
           try clear Gw
           try clear Gy
           try clear Fk
           try clear J0
           try clear J2
           try clear J4
           try clear Fo Fp
           try clear Jt
           try clear Fs Ft
           try clear Jv
           try clear Jx
           try clear D1
           try clear D2
           try clear D3
           try clear D4
           try clear D7
           try clear D8
           try clear D9
           try clear Da
           try clear Df
           try clear Dg
           try clear p2
           try clear p4
           try clear p40
           try clear E9
           try clear Eb
           try clear Eh
           try clear p6
           try clear p64
           try clear q4
           try clear q40
           try clear Ea
           try clear Ec
           try clear Ei
           obtain ⟨Bi, rfl, HA, Or, B0, B1, HB⟩ := hrel
           cases gk with
           | zero => exact absurd HA.out (by simp [r33_nodes.l3])
           | succ k4 =>
            have H := HA.out
            clear HA
            simp only [r33_nodes.l3] at H
            by_cases En : Bi < (Bg.length : Int)
            ·rw [if_pos En] at H
             have Je : decide (Bi < (Bg.length : Int)) = true := decide_eq_true En
             clear En
             by_cases Fu : 0 ≤ Bi
             ·rw [if_pos Fu] at H
              have Lf : decide (0 ≤ Bi) = true := decide_eq_true Fu
              clear Fu
              by_cases Fv : Bi < (Bg.length : Int)
              ·rw [if_pos Fv] at H
               have Lg : decide (Bi < (Bg.length : Int)) = true := decide_eq_true Fv
               clear Fv
               obtain ⟨Lh, Jy, H⟩ := bes_ H
               try dsimp only at H
               by_cases Fw : Lh = true
               ·subst Fw
                rw [if_pos rfl] at H
                have H' := am_ H
                clear H
                have Ej : 0 ≤ (Bi : Int) := of_decide_eq_true (by first | (with_reducible assumption) | assumption)
                have Ek : Bi < (Bg.length : Int) := of_decide_eq_true (by first | (with_reducible assumption) | assumption)
                obtain ⟨Fg, Jf, Dl, Dm⟩ := at_T81 Gc.out Bi Ej Ek
                cases Jf
                replace Dl := (HB.out.cell (World.block_lt_of_cell? w _ Dl)).trans Dl
                replace Dm := (HB.out.cell (World.block_lt_of_cell? w _ Dm)).trans Dm
                replace Ej := eq_true Ej
                replace Ek := eq_true Ek
                go_wp2_with (first | ((with_reducible refine gate_dst (N := 12) rfl ?_); refine bxe_ 12 81 #[.int .i64 0, .string (⟨#[]⟩ : ByteArray)] ?_; intro Fh hg w105 hbox hb; have E2 := am_ (hbox); have Fi := gwk_ HB hg; have E8 := Fi; replace HB := bst_ HB hb; have Bz := nbk_ B0 hg; have E5 := nbs_ Bz; replace B0 := bkb_ B0 hb; have D0 := nbk_ B1 hg; have E6 := nbs_ D0; replace B1 := bkb_ B1 hb; clear hb hbox hg; have Li := E5.out; have Lj := Bz.out; have Lk := E6.out; have Ll := D0.out; obtain ⟨Jz, L0⟩ := cells_2 E2.out; obtain ⟨L1, L2⟩ := frozen_2 E2.out; have Lm := B7.out; have Ln := Ba.out; have Lo := cells_11 B0.out; have Lp := frozen_11 B0.out) | ((with_reducible refine gate_callee (f := 43) rfl ?_); refine gom_ (some 76) Try.func43 (r33_node.calls Bj Bk Bl Bm Bn Bo Bp Bq Br Bs _ _ B6 ((rd_T81 Bg Bi).f0) _ _ ?side1 Bw.out Jy.out) ?_; (case side1 => exact Kd.C_below Bv.out (by repeat (first | (with_reducible first | exact HB.out | apply ba_ | apply bn_ | apply bd_ | refine bs_ ?_ B8.out | refine bs_ ?_ B9.out | refine bs_ ?_ E8.out) | exact HB.out))); rintro e w111 ⟨rfl, hb⟩; refine ⟨_, rfl, ?_⟩; replace B0 := am_ (blk_below (g := Dd) (o := .cells #[.int .i64 Bj, .int .i64 Bk, .int .i64 Bl, .int .i64 Bm, .int .i64 Bn, .int .i64 Bo, .int .i64 Bp, .int .i64 Bq, .int .i64 Br, .int .i64 Bs, .slice D5 B6.length D6] 24 (0, 0)) (by (iterate 2 ((with_reducible repeat (first | apply kn_ | apply kd_ | apply ka_)); refine blk_far ?_ Bz.out _)); (with_reducible repeat (first | apply kn_ | apply kd_ | apply ka_)); exact B0.out) hb); replace B1 := am_ (blk_below (g := De) (o := .cells #[.slice Dn Db.length Do, .slice Dp Dc.length Dq, .slice Dz B4.length Dr, .slice Dx Bf.length Ds, .slice E0 B5.length Dt, .slice (some Fg) Bg.length Du] 44 (0, 0)) (by (iterate 2 ((with_reducible repeat (first | apply kn_ | apply kd_ | apply ka_)); refine blk_far ?_ D0.out _)); (with_reducible repeat (first | apply kn_ | apply kd_ | apply ka_)); exact B1.out) hb); replace E2 := am_ (blk_below (g := Fh) (o := .cells #[.int .i64 ((rd_T81 Bg Bi).f0), .string ((rd_T81 Bg Bi).f1)] 81 (0, 0)) (by (with_reducible repeat (first | apply kn_ | apply kd_ | apply ka_)); refine blk_put (cs := #[.int .i64 ((rd_T81 Bg Bi).f0), .string (⟨#[]⟩ : ByteArray)]) ?_ 1 _ rfl; (with_reducible repeat (first | apply kn_ | apply kd_ | apply ka_)); refine blk_put (cs := #[.int .i64 0, .string (⟨#[]⟩ : ByteArray)]) ?_ 0 _ rfl; (with_reducible repeat (first | apply kn_ | apply kd_ | apply ka_)); exact E2.out) hb); replace HB := am_ (below_step (by repeat (first | (with_reducible first | exact HB.out | apply ba_ | apply bn_ | apply bd_ | refine bs_ ?_ B8.out | refine bs_ ?_ B9.out | refine bs_ ?_ E8.out) | exact HB.out)) hb); (try clear hb)))
                go_roundg k4
                case measure => have := Gd.out; have := Jg.out; have := L7.out; have := Or.out; omega
                case rel => exact ⟨(wrap64 (Bi + 1)), (by first | rfl | (simp; done) | (simp [*]; done)), H', ⟨by have := Gd.out; have := Jg.out; have := L7.out; have := Or.out; omega⟩, ⟨by (with_reducible repeat (first | apply kn_ | apply kd_ | apply ka_)); exact B0.out⟩, ⟨by (with_reducible repeat (first | apply kn_ | apply kd_ | apply ka_)); exact B1.out⟩, ⟨by repeat (first | (with_reducible first | exact HB.out | apply ba_ | apply bn_ | apply bd_ | refine bs_ ?_ B8.out | refine bs_ ?_ B9.out | refine bs_ ?_ E8.out) | exact HB.out)⟩⟩
               ·replace Fw := Bool.eq_false_iff.mpr Fw
                subst Fw
                rw [if_neg (show ¬ (false = true) by decide)] at H
                obtain rfl := Option.some.inj H
                have Ej : 0 ≤ (Bi : Int) := of_decide_eq_true (by first | (with_reducible assumption) | assumption)
                have Ek : Bi < (Bg.length : Int) := of_decide_eq_true (by first | (with_reducible assumption) | assumption)
                obtain ⟨Fg, Jf, Dl, Dm⟩ := at_T81 Gc.out Bi Ej Ek
                cases Jf
                replace Dl := (HB.out.cell (World.block_lt_of_cell? w _ Dl)).trans Dl
                replace Dm := (HB.out.cell (World.block_lt_of_cell? w _ Dm)).trans Dm
                replace Ej := eq_true Ej
                replace Ek := eq_true Ek
                go_wp2_with (first | ((with_reducible refine gate_dst (N := 12) rfl ?_); refine bxe_ 12 81 #[.int .i64 0, .string (⟨#[]⟩ : ByteArray)] ?_; intro Fh hg w112 hbox hb; have E2 := am_ (hbox); have Fi := gwk_ HB hg; have E8 := Fi; replace HB := bst_ HB hb; have Bz := nbk_ B0 hg; have E5 := nbs_ Bz; replace B0 := bkb_ B0 hb; have D0 := nbk_ B1 hg; have E6 := nbs_ D0; replace B1 := bkb_ B1 hb; clear hb hbox hg; have Lq := E5.out; have Lr := Bz.out; have Ls := E6.out; have Lt := D0.out; obtain ⟨L3, L4⟩ := cells_2 E2.out; obtain ⟨L5, L6⟩ := frozen_2 E2.out; have Lu := B7.out; have Lv := Ba.out; have Lw := cells_11 B0.out; have Lx := frozen_11 B0.out) | ((with_reducible refine gate_callee (f := 43) rfl ?_); refine gom_ (some 76) Try.func43 (r33_node.calls Bj Bk Bl Bm Bn Bo Bp Bq Br Bs _ _ B6 ((rd_T81 Bg Bi).f0) _ _ ?side1 Bw.out Jy.out) ?_; (case side1 => exact Kd.C_below Bv.out (by repeat (first | (with_reducible first | exact HB.out | apply ba_ | apply bn_ | apply bd_ | refine bs_ ?_ B8.out | refine bs_ ?_ B9.out | refine bs_ ?_ E8.out) | exact HB.out))); rintro e w118 ⟨rfl, hb⟩; refine ⟨_, rfl, ?_⟩; replace B0 := am_ (blk_below (g := Dd) (o := .cells #[.int .i64 Bj, .int .i64 Bk, .int .i64 Bl, .int .i64 Bm, .int .i64 Bn, .int .i64 Bo, .int .i64 Bp, .int .i64 Bq, .int .i64 Br, .int .i64 Bs, .slice D5 B6.length D6] 24 (0, 0)) (by (iterate 2 ((with_reducible repeat (first | apply kn_ | apply kd_ | apply ka_)); refine blk_far ?_ Bz.out _)); (with_reducible repeat (first | apply kn_ | apply kd_ | apply ka_)); exact B0.out) hb); replace B1 := am_ (blk_below (g := De) (o := .cells #[.slice Dn Db.length Do, .slice Dp Dc.length Dq, .slice Dz B4.length Dr, .slice Dx Bf.length Ds, .slice E0 B5.length Dt, .slice (some Fg) Bg.length Du] 44 (0, 0)) (by (iterate 2 ((with_reducible repeat (first | apply kn_ | apply kd_ | apply ka_)); refine blk_far ?_ D0.out _)); (with_reducible repeat (first | apply kn_ | apply kd_ | apply ka_)); exact B1.out) hb); replace E2 := am_ (blk_below (g := Fh) (o := .cells #[.int .i64 ((rd_T81 Bg Bi).f0), .string ((rd_T81 Bg Bi).f1)] 81 (0, 0)) (by (with_reducible repeat (first | apply kn_ | apply kd_ | apply ka_)); refine blk_put (cs := #[.int .i64 ((rd_T81 Bg Bi).f0), .string (⟨#[]⟩ : ByteArray)]) ?_ 1 _ rfl; (with_reducible repeat (first | apply kn_ | apply kd_ | apply ka_)); refine blk_put (cs := #[.int .i64 0, .string (⟨#[]⟩ : ByteArray)]) ?_ 0 _ rfl; (with_reducible repeat (first | apply kn_ | apply kd_ | apply ka_)); exact E2.out) hb); replace HB := am_ (below_step (by repeat (first | (with_reducible first | exact HB.out | apply ba_ | apply bn_ | apply bd_ | refine bs_ ?_ B8.out | refine bs_ ?_ B9.out | refine bs_ ?_ E8.out) | exact HB.out)) hb); (try clear hb)))
                go_ret
                exact ⟨by first | rfl | (simp [*] <;> rfl), by repeat (first | (with_reducible first | exact HB.out | apply ba_ | apply bn_ | apply bd_ | refine bs_ ?_ B8.out | refine bs_ ?_ B9.out | refine bs_ ?_ E8.out) | exact HB.out)⟩
              ·rw [if_neg Fv] at H
               exact absurd H (by simp)
             ·rw [if_neg Fu] at H
              exact absurd H (by simp)
            ·rw [if_neg En] at H
             have Je : decide (Bi < (Bg.length : Int)) = false := decide_eq_false En
             clear En
             obtain rfl := Option.some.inj H
             go_wp2
             go_ret
             exact ⟨by first | rfl | (simp [*] <;> rfl), by repeat (first | (with_reducible first | exact HB.out | apply ba_ | apply bn_ | apply bd_ | refine bs_ ?_ B8.out | refine bs_ ?_ B9.out) | exact HB.out)⟩
end Go.Proofs.Ythdoghhmooodjaa.Gn
