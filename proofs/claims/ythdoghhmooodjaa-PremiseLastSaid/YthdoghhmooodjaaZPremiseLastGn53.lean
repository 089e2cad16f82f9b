import Derived.Test.YthdoghhmooodjaaZPremiseLastGn0
import Derived.Test.YthdoghhmooodjaaZPremiseLastGn1
import Derived.Test.YthdoghhmooodjaaZPremiseLastGn23
import Derived.Test.YthdoghhmooodjaaZPremiseLastGn37
import Derived.Test.YthdoghhmooodjaaZPremiseLastGn65
namespace Go.Proofs.Ythdoghhmooodjaa.Gn
open Go.RowKit Go.Proofs.YthdoghhmooodjaaW.PrintWords Go.Proofs.YthdoghhmooodjaaW.PrintLast Go.Proofs.YthdoghhmooodjaaW.PrintMore
attribute [local go_sem] max2_int min2_int max_two min_two max_three min_three max_four min_four   -- for this text's walks alone
set_option linter.unusedVariables false
set_option linter.unusedSimpArgs false
mutual
def r34_Calm.j0 : Nat → Int → Bool → Int → Int → Int → Int → Int → Int → Int → Int → Int → Int → List Int → List Int → List ByteArray → List (S44) → Int → Int → Int → Int → Int → Int → Int → Int → Int → Int → List Int → Option (Bool)
 | 0, _, _, _, _, _, _, _, _, _, _, _, _, _, _, _, _, _, _, _, _, _, _, _, _, _, _, _ => none
 | k + 1, x1, By, B0, B1, B2, B3, B4, B5, B6, B7, B8, B9, Ba, Bb, Bc, Bd, Bh, Bi, Bg, Bj, Be, Bf, Bk, Bl, Bm, Bn, Bo => if By = true then (some false) else ((r33_Honest.f k B0 B1 B2 B3 B4 B5 B6 B7 B8 B9 Ba Bb Bc Bd).bind fun Bs => (r34_Calm.l0 k x1 Bs Bs (Bs.length : Int) 0 B0 B1 B2 B3 B4 B5 B6 B7 B8 B9 Ba Bb Bc Bd Bh Bi Bg Bj Be Bf Bk Bl Bm Bn Bo))
def r34_Calm.l0 : Nat → Int → List Int → List Int → Int → Int → Int → Int → Int → Int → Int → Int → Int → Int → Int → Int → List Int → List Int → List ByteArray → List (S44) → Int → Int → Int → Int → Int → Int → Int → Int → Int → Int → List Int → Option (Bool)
 | 0, _, _, _, _, _, _, _, _, _, _, _, _, _, _, _, _, _, _, _, _, _, _, _, _, _, _, _, _, _, _ => none
 | k + 1, x1, x6, Bq, Br, Bp, B0, B1, B2, B3, B4, B5, B6, B7, B8, B9, Ba, Bb, Bc, Bd, Bh, Bi, Bg, Bj, Be, Bf, Bk, Bl, Bm, Bn, Bo => if Bp < Br then (if 0 ≤ Bp then (if Bp < (Bq.length : Int) then ((r33_Units.f k B0 B1 B2 B3 B4 B5 B6 B7 B8 B9 Ba Bb Bc Bd x1 (rd Bq Bp)).bind fun Bt => (if Bt < (wrap64 (Be - Bf)) then (r34_Calm.j2 k x1 x6 (rd Bq Bp) Bq Br Bp true B0 B1 B2 B3 B4 B5 B6 B7 B8 B9 Ba Bb Bc Bd Bh Bi Bg Bj Be Bf Bk Bl Bm Bn Bo) else (r34_Calm.j2 k x1 x6 (rd Bq Bp) Bq Br Bp (decide (Bt > (wrap64 (Be + Bf)))) B0 B1 B2 B3 B4 B5 B6 B7 B8 B9 Ba Bb Bc Bd Bh Bi Bg Bj Be Bf Bk Bl Bm Bn Bo))) else (none)) else (none)) else (some true)
def r34_Calm.j2 : Nat → Int → List Int → Int → List Int → Int → Int → Bool → Int → Int → Int → Int → Int → Int → Int → Int → Int → Int → List Int → List Int → List ByteArray → List (S44) → Int → Int → Int → Int → Int → Int → Int → Int → Int → Int → List Int → Option (Bool)
 | 0, _, _, _, _, _, _, _, _, _, _, _, _, _, _, _, _, _, _, _, _, _, _, _, _, _, _, _, _, _, _, _, _ => none
 | k + 1, x1, x6, x8, Bq, Br, Bp, Bz, B0, B1, B2, B3, B4, B5, B6, B7, B8, B9, Ba, Bb, Bc, Bd, Bh, Bi, Bg, Bj, Be, Bf, Bk, Bl, Bm, Bn, Bo => if Bz = true then (some false) else (r34_Calm.l1 k x1 x6 x8 Bq Br Bp x6 (x6.length : Int) 0 B0 B1 B2 B3 B4 B5 B6 B7 B8 B9 Ba Bb Bc Bd Bh Bi Bg Bj Be Bf Bk Bl Bm Bn Bo)
def r34_Calm.l1 : Nat → Int → List Int → Int → List Int → Int → Int → List Int → Int → Int → Int → Int → Int → Int → Int → Int → Int → Int → Int → Int → List Int → List Int → List ByteArray → List (S44) → Int → Int → Int → Int → Int → Int → Int → Int → Int → Int → List Int → Option (Bool)
 | 0, _, _, _, _, _, _, _, _, _, _, _, _, _, _, _, _, _, _, _, _, _, _, _, _, _, _, _, _, _, _, _, _, _, _ => none
 | k + 1, x1, x6, x8, Bq, Br, Bp, Bw, Bx, Bu, B0, B1, B2, B3, B4, B5, B6, B7, B8, B9, Ba, Bb, Bc, Bd, Bh, Bi, Bg, Bj, Be, Bf, Bk, Bl, Bm, Bn, Bo => if Bu < Bx then (if 0 ≤ Bu then (if Bu < (Bw.length : Int) then ((r33_Delay.f k B0 B1 B2 B3 B4 B5 B6 B7 B8 B9 Ba Bb Bc Bd x1 x8 (rd Bw Bu)).bind fun Bv => (if Bv < 1 then (some false) else (if Bv > Bg then (some false) else (r34_Calm.l1 k x1 x6 x8 Bq Br Bp Bw Bx (wrap64 (Bu + 1)) B0 B1 B2 B3 B4 B5 B6 B7 B8 B9 Ba Bb Bc Bd Bh Bi Bg Bj Be Bf Bk Bl Bm Bn Bo)))) else (none)) else (none)) else (r34_Calm.l0 k x1 x6 Bq Br (wrap64 (Bp + 1)) B0 B1 B2 B3 B4 B5 B6 B7 B8 B9 Ba Bb Bc Bd Bh Bi Bg Bj Be Bf Bk Bl Bm Bn Bo)
end
def r34_Calm.f (k : Nat) (B2 B3 B4 B5 B6 B7 B8 B9 Ba Bb : Int) (B0 Bc : List Int) (Bd : List ByteArray) (B1 : List (S44)) (a1 : Int) : Option (Bool) := if a1 < 0 then (r34_Calm.j0 k a1 true B2 B3 B4 B5 B6 B7 B8 B9 Ba Bb B0 Bc Bd B1 B2 B3 B4 B5 B6 B7 B8 B9 Ba Bb B0) else (if a1 ≥ (B1.length : Int) then (r34_Calm.j0 k a1 true B2 B3 B4 B5 B6 B7 B8 B9 Ba Bb B0 Bc Bd B1 B2 B3 B4 B5 B6 B7 B8 B9 Ba Bb B0) else ((r03_Plain.f k B2 B3 B4 B5 B6 B7 B8 B9 Ba Bb B0).bind fun Be => (if Be = 0 then (if 0 ≤ a1 then (if a1 < (B1.length : Int) then (if (((rd_T44 B1 a1).f3).length : Int) > 0 then (r34_Calm.j0 k a1 true B2 B3 B4 B5 B6 B7 B8 B9 Ba Bb B0 Bc Bd B1 B2 B3 B4 B5 B6 B7 B8 B9 Ba Bb B0) else (r34_Calm.j0 k a1 (decide ((((rd_T44 B1 a1).f4).length : Int) > 0)) B2 B3 B4 B5 B6 B7 B8 B9 Ba Bb B0 Bc Bd B1 B2 B3 B4 B5 B6 B7 B8 B9 Ba Bb B0)) else (none)) else (none)) else (r34_Calm.j0 k a1 true B2 B3 B4 B5 B6 B7 B8 B9 Ba Bb B0 Bc Bd B1 B2 B3 B4 B5 B6 B7 B8 B9 Ba Bb B0))))
set_option maxHeartbeats 8000000 in
set_option maxRecDepth 100000 in
theorem r34_Calm.calls (k : Nat) (Bk Bl Bb Bm B7 B8 Bn Bo Bp Bq : Int) (Bu : Option Addr) (Bv : Nat) (B3 : List Int) (Dk : Option Addr) (Dl : Nat) (Bi : List Int) (Dm : Option Addr) (Dn : Nat) (Bj : List ByteArray) (Do : Option Addr) (Dp : Nat) (B2 : List (S44)) (a1 : Int) (r : Bool) (w : World) (F4 : Kd.C (Kd.int .i64) w Bu B3.length B3) (F5 : B3.length ≤ Bv) (F6 : Kd.C (Kd.int .i64) w Dk Bi.length Bi) (F7 : Bi.length ≤ Dl) (F8 : Kd.C Kd.string w Dm Bj.length Bj) (F9 : Bj.length ≤ Dn) (Fa : Kd.C k44 w Do B2.length B2) (Fb : B2.length ≤ Dp) (h : r34_Calm.f k Bk Bl Bb Bm B7 B8 Bn Bo Bp Bq B3 Bi Bj B2 a1 = some r) :
  Calls Try.prog 29 #[.agg #[.int .i64 Bk, .int .i64 Bl, .int .i64 Bb, .int .i64 Bm, .int .i64 B7, .int .i64 B8, .int .i64 Bn, .int .i64 Bo, .int .i64 Bp, .int .i64 Bq, .slice Bu B3.length Bv, .slice Dk Bi.length Dl, .slice Dm Bj.length Dn, .slice Do B2.length Dp], .int .i64 a1] w fun e w' => e = .returned (.bool r) ∧ Below w.heap.size w w' := by
 have Mb := Try.underlying24
 have D3 := am_ F4
 have D4 := am_ F5
 clear F4 F5
 have Dr := am_ F6
 have Ds := am_ F7
 clear F6 F7
 have Dt := am_ F8
 have Du := am_ F9
 clear F8 F9
 have D5 := am_ Fa
 have Dv := am_ Fb
 clear Fa Fb
 have HB := am_ (Below.refl w.heap.size w)
 have H := h
 unfold r34_Calm.f at H
 clear h
 have Jo := am_ H
 clear H
 go_enter Try.func29, Try.ntmps29
 go_upto_region 2 with (first | ((with_reducible refine gate_load (t := 28) (x := .tmp 2) rfl ?_); refine lrg_ 28 (.tmp 2) Bw 28 (by exact B0.out) Try.underlying28 ?_) | ((with_reducible refine gate_dst (N := 2) rfl ?_); (try (refine gate_guard (by rfl) ?_; dsimp only)); refine bxe_ 2 28 #[.int .i64 Bk, .int .i64 Bl, .int .i64 Bb, .int .i64 Bm, .int .i64 B7, .int .i64 B8, .int .i64 Bn, .int .i64 Bo, .int .i64 Bp, .int .i64 Bq, .slice Bu B3.length Bv, .slice Dk Bi.length Dl, .slice Dm Bj.length Dn, .slice Do B2.length Dp] ?_; intro Bw hg w4 hbox hb; have B0 := am_ (hbox); have J0 := gwk_ HB hg; have Bs := J0; replace HB := bst_ HB hb; clear hb hbox hg; have Jp := cells_14 B0.out; have Jq := frozen_14 B0.out) | ((with_reducible refine gate_dst (N := 5) rfl ?_); (try (refine gate_guard (by rfl) ?_; dsimp only)); refine bxe_ 5 24 #[.int .i64 0, .int .i64 0, .int .i64 0, .int .i64 0, .int .i64 0, .int .i64 0, .int .i64 0, .int .i64 0, .int .i64 0, .int .i64 0, .slice none 0 0] ?_; intro E0 hg w6 hbox hb; have B1 := am_ (hbox); have J1 := gwk_ HB hg; have Br := J1; replace HB := bst_ HB hb; have B5 := nbk_ B0 hg; have B9 := nbs_ B5; replace B0 := bkb_ B0 hb; clear hb hbox hg) | ((with_reducible refine gate_store (t := 24) (p := 5) rfl ?_); refine row_store_event (t := 24) (p := 5) (v := ?vo_w7) ?hgd ?ho ?hn E0 #[.int .i64 Bk, .int .i64 Bl, .int .i64 Bb, .int .i64 Bm, .int .i64 B7, .int .i64 B8, .int .i64 Bn, .int .i64 Bo, .int .i64 Bp, .int .i64 Bq, .slice Bu B3.length Bv] ?hx ?hy 24 #[.int .i64 0, .int .i64 0, .int .i64 0, .int .i64 0, .int .i64 0, .int .i64 0, .int .i64 0, .int .i64 0, .int .i64 0, .int .i64 0, .slice none 0 0] ?hg ?hi ?hold ?h1 ?_; (case hgd => rfl); (case ho => rfl); (case hn => rfl); (case hx => rfl); (case hy => rfl); (case hg => exact (by (with_reducible repeat (first | apply kn_ | apply kd_ | apply ka_)); exact B1.out)); (case hi => kernel_rfl); (case hold => rfl); (case h1 => (first | kernel_rfl | simp [Value.oneCell'])); intro w7 hw; have Ld : Aside0 (w7.heap[Bw]? = some (.cells #[.int .i64 Bk, .int .i64 Bl, .int .i64 Bb, .int .i64 Bm, .int .i64 B7, .int .i64 B8, .int .i64 Bn, .int .i64 Bo, .int .i64 Bp, .int .i64 Bq, .slice Bu B3.length Bv, .slice Dk Bi.length Dl, .slice Dm Bj.length Dn, .slice Do B2.length Dp] 28 (0, 0))) := ⟨(by rw [hw]; exact (by (with_reducible repeat (first | apply kn_ | apply kd_ | apply ka_)); refine blk_farc ?_ B5.out; (with_reducible repeat (first | apply kn_ | apply kd_ | apply ka_)); exact B0.out))⟩; have Le : Aside0 (w7.heap[E0]? = some (.cells #[.int .i64 Bk, .int .i64 Bl, .int .i64 Bb, .int .i64 Bm, .int .i64 B7, .int .i64 B8, .int .i64 Bn, .int .i64 Bo, .int .i64 Bp, .int .i64 Bq, .slice Bu B3.length Bv] 24 (0, 0))) := ⟨(by rw [hw]; exact (by (with_reducible repeat (first | apply kn_ | apply kd_ | apply ka_)); refine setRow_heap _ _ #[.int .i64 0, .int .i64 0, .int .i64 0, .int .i64 0, .int .i64 0, .int .i64 0, .int .i64 0, .int .i64 0, .int .i64 0, .int .i64 0, .slice none 0 0] _ 24 (0, 0) ?_; (with_reducible repeat (first | apply kn_ | apply kd_ | apply ka_)); exact B1.out))⟩; have Lf : Aside0 (Below w.heap.size w w7) := ⟨(by rw [hw]; exact (by repeat (first | (with_reducible first | exact HB.out | refine below_setc ?_ Br.out | apply below_alloc | apply pw_below_drewN | apply below_drew1 | refine bs_ ?_ Bs.out | refine bs_ ?_ Br.out) | exact HB.out)))⟩; clear hw; clear B0; clear B1; clear HB; have B0 := Ld; have B1 := Le; have HB := Lf; clear Ld Le Lf))
 (try simp only [Act.put, zs_])
 go_cut [48] (fun v48 wc => ∃ (kq : Nat) (Ec : Bool), v48 = .bool Ec ∧ Aside0 (r34_Calm.j0 kq a1 Ec Bk Bl Bb Bm B7 B8 Bn Bo Bp Bq B3 Bi Bj B2 Bk Bl Bb Bm B7 B8 Bn Bo Bp Bq B3 = some r) ∧ Aside0 (kq ≤ k) ∧ Aside0 (wc.heap[Bw]? = some (.cells #[.int .i64 Bk, .int .i64 Bl, .int .i64 Bb, .int .i64 Bm, .int .i64 B7, .int .i64 B8, .int .i64 Bn, .int .i64 Bo, .int .i64 Bp, .int .i64 Bq, (.slice Bu B3.length Bv), (.slice Dk Bi.length Dl), (.slice Dm Bj.length Dn), (.slice Do B2.length Dp)] 28 (0, 0))) ∧ Aside0 (wc.heap[E0]? = some (.cells #[.int .i64 Bk, .int .i64 Bl, .int .i64 Bb, .int .i64 Bm, .int .i64 B7, .int .i64 B8, .int .i64 Bn, .int .i64 Bo, .int .i64 Bp, .int .i64 Bq, (.slice Bu B3.length Bv)] 24 (0, 0))) ∧ Aside0 (Below w.heap.size w wc))
 case first =>
  have H := Jo.out
  clear Jo
  by_cases c8 : a1 < 0
  ·rw [if_pos c8] at H
   have E1 : decide (a1 < 0) = true := decide_eq_true c8
   clear c8
   (first | rw [E1] | (simp only [i64_w, i32_w]; rw [E1]) | skip)
   have H' := am_ H
   clear H
   go_wp2
   go_meet
   case rel => exact ⟨_, (true), (by first | rfl | (simp; done) | (simp [*]; done)), H', ⟨by first | omega | exact Nat.le_refl _⟩, ⟨by (with_reducible repeat (first | apply kn_ | apply kd_ | apply ka_)); exact B0.out⟩, ⟨by (with_reducible repeat (first | apply kn_ | apply kd_ | apply ka_)); exact B1.out⟩, ⟨by repeat (first | (with_reducible first | exact HB.out | apply ba_ | apply bn_ | apply bd_ | refine bs_ ?_ Bs.out | refine bs_ ?_ Br.out) | exact HB.out)⟩⟩
  ·rw [if_neg c8] at H
   have E1 : decide (a1 < 0) = false := decide_eq_false c8
   clear c8
   (first | rw [E1] | (simp only [i64_w, i32_w]; rw [E1]) | skip)
   by_cases c9 : a1 ≥ (B2.length : Int)
   ·rw [if_pos c9] at H
    have Fc : decide ((B2.length : Int) ≤ a1) = true := decide_eq_true c9
    clear c9
    have H' := am_ H
    clear H
    have Lg := B5.out
    have Lh := B9.out
    have Ed := cells_14 B0.out
    have Ee := frozen_14 B0.out
    go_wp2
    go_meet
    case rel => exact ⟨_, (true), (by first | rfl | (simp; done) | (simp [*]; done)), H', ⟨by first | omega | exact Nat.le_refl _⟩, ⟨by (with_reducible repeat (first | apply kn_ | apply kd_ | apply ka_)); exact B0.out⟩, ⟨by (with_reducible repeat (first | apply kn_ | apply kd_ | apply ka_)); exact B1.out⟩, ⟨by repeat (first | (with_reducible first | exact HB.out | apply ba_ | apply bn_ | apply bd_ | refine bs_ ?_ Bs.out | refine bs_ ?_ Br.out) | exact HB.out)⟩⟩
   ·rw [if_neg c9] at H
    have Fc : decide ((B2.length : Int) ≤ a1) = false := decide_eq_false c9
    clear c9
    obtain ⟨Fd, Jr, H⟩ := bes_ H
    try dsimp only at H
    by_cases Fe : Fd = 0
    ·rw [if_pos Fe] at H
     have E3 : (Fd == 0) = true := beq_iff_eq.mpr Fe
     have E4 : (Fd != 0) = false := bne_eq_false_iff_eq.mpr Fe
     clear Fe
     by_cases G1 : 0 ≤ a1
     ·rw [if_pos G1] at H
      have Ef : decide (0 ≤ a1) = true := decide_eq_true G1
      clear G1
      by_cases G2 : a1 < (B2.length : Int)
      ·rw [if_pos G2] at H
       have Eg : decide (a1 < (B2.length : Int)) = true := decide_eq_true G2
       clear G2
       by_cases Fm : (((rd_T44 B2 a1).f3).length : Int) > 0
       rw [if_pos Fm] at H
       have E5 : decide (0 < (((rd_T44 B2 a1).f3).length : Int)) = true := decide_eq_true Fm
       have E6 : decide (0 < ((rd_T44 B2 a1).f3).length) = true := decide_eq_true (by omega)
       rotate_left
       rw [if_neg Fm] at H
       have E5 : decide (0 < (((rd_T44 B2 a1).f3).length : Int)) = false := decide_eq_false Fm
       have E6 : decide (0 < ((rd_T44 B2 a1).f3).length) = false := decide_eq_false (by omega)
       rotate_left
       all_goals
        clear Fm
        have H' := am_ H
        clear H
        have Li := B5.out
        have Lj := B9.out
        have Eh := cells_14 B0.out
        have Ei := frozen_14 B0.out
        have Ej := cells_11 B1.out
        have Ek := frozen_11 B1.out
       ·go_wp2_with (first | ((with_reducible refine gate_load (t := 28) (x := .tmp 2) rfl ?_); refine lrg_ 28 (.tmp 2) Bw 28 (by exact B0.out) Try.underlying28 ?_) | (go_at_call 56; (with_reducible refine (r03_Plain.calls k Bk Bl Bb Bm B7 B8 Bn Bo Bp Bq _ _ B3 _ _ (Kd.C_below D3.out HB.out) D4.out Jr.out).mono ?_); rintro e w20 ⟨rfl, hb⟩; replace B0 := bkb_ B0 hb; replace B1 := bkb_ B1 hb; replace HB := bst_ HB hb; (try clear hb); have Js := cells_14 B0.out; have Jt := frozen_14 B0.out; have Dw : 0 ≤ (a1 : Int) := of_decide_eq_true (by first | (with_reducible assumption) | assumption); have Dx : a1 < (B2.length : Int) := of_decide_eq_true (by first | (with_reducible assumption) | assumption); obtain ⟨G3, Gb, Gc, Gd, Ge, Gf, Gg, Gh, Gi, Gj, Gk, Gl, Gm, Gp, Bc, Bd, Be, Bf, Bg, Bh, D8, D9, Da, Db, Dc, Dd, De, Df, Dg, Dh, Di, Dj⟩ := at_T44 D5.out a1 Dw Dx; cases Gp; replace Bc := (HB.out.cell (World.block_lt_of_cell? w _ Bc)).trans Bc; replace Bd := (HB.out.cell (World.block_lt_of_cell? w _ Bd)).trans Bd; replace Be := (HB.out.cell (World.block_lt_of_cell? w _ Be)).trans Be; replace Bf := (HB.out.cell (World.block_lt_of_cell? w _ Bf)).trans Bf; replace Bg := (HB.out.cell (World.block_lt_of_cell? w _ Bg)).trans Bg; replace Bh := (HB.out.cell (World.block_lt_of_cell? w _ Bh)).trans Bh; have Fn := am_ D9; have Fo := am_ D8; clear D9 D8; have Fp := am_ Db; have Fq := am_ Da; clear Db Da; have Fr := am_ Dd; have Fs := am_ Dc; clear Dd Dc; have Ft := am_ Df; have Fu := am_ De; clear Df De; have Fv := am_ Dh; have Fw := am_ Dg; clear Dh Dg; have Fx := am_ Dj; have Fy := am_ Di; clear Dj Di; replace Dw := eq_true Dw; replace Dx := eq_true Dx))
        go_meet
        case rel => exact ⟨_, (true), (by first | rfl | (simp; done) | (simp [*]; done)), H', ⟨by first | omega | exact Nat.le_refl _⟩, ⟨by (with_reducible repeat (first | apply kn_ | apply kd_ | apply ka_)); exact B0.out⟩, ⟨by (with_reducible repeat (first | apply kn_ | apply kd_ | apply ka_)); exact B1.out⟩, ⟨by repeat (first | (with_reducible first | exact HB.out | apply ba_ | apply bn_ | apply bd_ | refine bs_ ?_ Bs.out | refine bs_ ?_ Br.out) | exact HB.out)⟩⟩
       ·go_wp2_with (first | ((with_reducible refine gate_load (t := 28) (x := .tmp 2) rfl ?_); refine lrg_ 28 (.tmp 2) Bw 28 (by exact B0.out) Try.underlying28 ?_) | (go_at_call 56; (with_reducible refine (r03_Plain.calls k Bk Bl Bb Bm B7 B8 Bn Bo Bp Bq _ _ B3 _ _ (Kd.C_below D3.out HB.out) D4.out Jr.out).mono ?_); rintro e w25 ⟨rfl, hb⟩; replace B0 := bkb_ B0 hb; replace B1 := bkb_ B1 hb; replace HB := bst_ HB hb; (try clear hb); have Ju := cells_14 B0.out; have Jv := frozen_14 B0.out; have Dw : 0 ≤ (a1 : Int) := of_decide_eq_true (by first | (with_reducible assumption) | assumption); have Dx : a1 < (B2.length : Int) := of_decide_eq_true (by first | (with_reducible assumption) | assumption); obtain ⟨G3, Gb, Gc, Gd, Ge, Gf, Gg, Gh, Gi, Gj, Gk, Gl, Gm, Gp, Bc, Bd, Be, Bf, Bg, Bh, D8, D9, Da, Db, Dc, Dd, De, Df, Dg, Dh, Di, Dj⟩ := at_T44 D5.out a1 Dw Dx; cases Gp; replace Bc := (HB.out.cell (World.block_lt_of_cell? w _ Bc)).trans Bc; replace Bd := (HB.out.cell (World.block_lt_of_cell? w _ Bd)).trans Bd; replace Be := (HB.out.cell (World.block_lt_of_cell? w _ Be)).trans Be; replace Bf := (HB.out.cell (World.block_lt_of_cell? w _ Bf)).trans Bf; replace Bg := (HB.out.cell (World.block_lt_of_cell? w _ Bg)).trans Bg; replace Bh := (HB.out.cell (World.block_lt_of_cell? w _ Bh)).trans Bh; have Fn := am_ D9; have Fo := am_ D8; clear D9 D8; have Fp := am_ Db; have Fq := am_ Da; clear Db Da; have Fr := am_ Dd; have Fs := am_ Dc; clear Dd Dc; have Ft := am_ Df; have Fu := am_ De; clear Df De; have Fv := am_ Dh; have Fw := am_ Dg; clear Dh Dg; have Fx := am_ Dj; have Fy := am_ Di; clear Dj Di; replace Dw := eq_true Dw; replace Dx := eq_true Dx; have E9 : 0 ≤ (a1 : Int) := of_decide_eq_true (by first | (with_reducible assumption) | assumption); have Ea : a1 < (B2.length : Int) := of_decide_eq_true (by first | (with_reducible assumption) | assumption); obtain ⟨J2, Jw, Jx, Jy, Jz, L0, L1, L2, L3, L4, L5, L6, L7, L8, Bx, By, Bz, D0, D1, D2, El, Em, En, Eo, Ep, Eq, Er, Es, Et, Eu, Ev, Ew⟩ := at_T44 D5.out a1 E9 Ea; obtain rfl : G3 = J2 := (by injection L8); replace Bx := (HB.out.cell (World.block_lt_of_cell? w _ Bx)).trans Bx; replace By := (HB.out.cell (World.block_lt_of_cell? w _ By)).trans By; replace Bz := (HB.out.cell (World.block_lt_of_cell? w _ Bz)).trans Bz; replace D0 := (HB.out.cell (World.block_lt_of_cell? w _ D0)).trans D0; replace D1 := (HB.out.cell (World.block_lt_of_cell? w _ D1)).trans D1; replace D2 := (HB.out.cell (World.block_lt_of_cell? w _ D2)).trans D2; have J9 := am_ Em; have Ja := am_ El; clear Em El; have Jb := am_ Eo; have Jc := am_ En; clear Eo En; have Jd := am_ Eq; have Je := am_ Ep; clear Eq Ep; have Jf := am_ Es; have Jg := am_ Er; clear Es Er; have Jh := am_ Eu; have Ji := am_ Et; clear Eu Et; have Jj := am_ Ew; have Jk := am_ Ev; clear Ew Ev; replace E9 := eq_true E9; replace Ea := eq_true Ea; have ea_ := Option.some.inj (Bc.symm.trans Bx); injection ea_ with ea_ en_ ec_; subst ea_; subst ec_; clear en_; have ea_ := Option.some.inj (Bd.symm.trans By); injection ea_ with ea_ en_ ec_; subst ea_; subst ec_; clear en_; have ea_ := Option.some.inj (Be.symm.trans Bz); injection ea_ with ea_ en_ ec_; subst ea_; subst ec_; clear en_; have ea_ := Option.some.inj (Bf.symm.trans D0); injection ea_ with ea_ en_ ec_; subst ea_; subst ec_; clear en_; have ea_ := Option.some.inj (Bg.symm.trans D1); injection ea_ with ea_ en_ ec_; subst ea_; subst ec_; clear en_; have ea_ := Option.some.inj (Bh.symm.trans D2); injection ea_ with ea_ en_ ec_; subst ea_; subst ec_; clear en_))
        go_meet
        case rel => exact ⟨_, (decide ((((rd_T44 B2 a1).f4).length : Int) > 0)), (by first | rfl | (simp; done) | (simp [*]; done)), H', ⟨by first | omega | exact Nat.le_refl _⟩, ⟨by (with_reducible repeat (first | apply kn_ | apply kd_ | apply ka_)); exact B0.out⟩, ⟨by (with_reducible repeat (first | apply kn_ | apply kd_ | apply ka_)); exact B1.out⟩, ⟨by repeat (first | (with_reducible first | exact HB.out | apply ba_ | apply bn_ | apply bd_ | refine bs_ ?_ Bs.out | refine bs_ ?_ Br.out) | exact HB.out)⟩⟩
      ·rw [if_neg G2] at H
       exact absurd H (by simp)
     ·rw [if_neg G1] at H
      exact absurd H (by simp)
    ·rw [if_neg Fe] at H
     have E3 : (Fd == 0) = false := beq_eq_false_iff_ne.mpr Fe
     have E4 : (Fd != 0) = true := bne_iff_ne.mpr Fe
     have H' := am_ H
     clear H
     have Lk := B5.out
     have Ll := B9.out
     have Ex := cells_14 B0.out
     have Ey := frozen_14 B0.out
     have Ez := cells_11 B1.out
     have F0 := frozen_11 B1.out
     go_wp2_with (first | ((with_reducible refine gate_load (t := 28) (x := .tmp 2) rfl ?_); refine lrg_ 28 (.tmp 2) Bw 28 (by exact B0.out) Try.underlying28 ?_) | (go_at_call 56; (with_reducible refine (r03_Plain.calls k Bk Bl Bb Bm B7 B8 Bn Bo Bp Bq _ _ B3 _ _ (Kd.C_below D3.out HB.out) D4.out Jr.out).mono ?_); rintro e w30 ⟨rfl, hb⟩; replace B0 := bkb_ B0 hb; replace B1 := bkb_ B1 hb; replace HB := bst_ HB hb; (try clear hb)))
     go_meet
     case rel => exact ⟨_, (true), (by first | rfl | (simp; done) | (simp [*]; done)), H', ⟨by first | omega | exact Nat.le_refl _⟩, ⟨by (with_reducible repeat (first | apply kn_ | apply kd_ | apply ka_)); exact B0.out⟩, ⟨by (with_reducible repeat (first | apply kn_ | apply kd_ | apply ka_)); exact B1.out⟩, ⟨by repeat (first | (with_reducible first | exact HB.out | apply ba_ | apply bn_ | apply bd_ | refine bs_ ?_ Bs.out | refine bs_ ?_ Br.out) | exact HB.out)⟩⟩
 case rest =>
  clear Jo
  try clear c1
  try clear c2
  try clear p2
  try clear c4
  try clear p4
  try clear q4
  try clear hx4
  try clear c8
  try clear E1
  try clear c9
  try clear Fc
  try clear c10
  try clear Fe
  try clear E3
  try clear E4
  try clear G1
  try clear Ef
  try clear G2
  try clear Eg
  try clear Fm
  try clear E5
  try clear E6
  try clear c17
  try clear c22
  try clear c27
  try clear c29
  try clear Ed
  try clear Eh
  try clear Ej
  try clear hcz21_0 hcz21_1 hcz21_2 hcz21_3 hcz21_4 hcz21_5 hcz21_6 hcz21_7 hcz21_8 hcz21_9 hcz21_10 hcz21_11 hcz21_12 hcz21_13
  try clear hcz23
  try clear hcz24
  try clear hcz26_0 hcz26_1 hcz26_2 hcz26_3 hcz26_4 hcz26_5 hcz26_6 hcz26_7 hcz26_8 hcz26_9 hcz26_10 hcz26_11 hcz26_12 hcz26_13
  try clear Ex
  try clear Ez
  try clear hcz5_0 hcz5_1 hcz5_2 hcz5_3 hcz5_4 hcz5_5 hcz5_6 hcz5_7 hcz5_8 hcz5_9 hcz5_10 hcz5_11 hcz5_12 hcz5_13
  try clear Ee
  try clear Ei
  try clear Ek
  try clear hfz21_0 hfz21_1 hfz21_2 hfz21_3 hfz21_4 hfz21_5 hfz21_6 hfz21_7 hfz21_8 hfz21_9 hfz21_10 hfz21_11 hfz21_12 hfz21_13
  try clear hfz23
  try clear hfz24
  try clear hfz26_0 hfz26_1 hfz26_2 hfz26_3 hfz26_4 hfz26_5 hfz26_6 hfz26_7 hfz26_8 hfz26_9 hfz26_10 hfz26_11 hfz26_12 hfz26_13
  try clear Ey
  try clear F0
  try clear hfz5_0 hfz5_1 hfz5_2 hfz5_3 hfz5_4 hfz5_5 hfz5_6 hfz5_7 hfz5_8 hfz5_9 hfz5_10 hfz5_11 hfz5_12 hfz5_13
  try clear Bc
  try clear Bd
  try clear Be
  try clear Bf
  try clear Bg
  try clear Bh
  try clear Bx
  try clear By
  try clear Bz
  try clear D0
  try clear D1
  try clear D2
  try clear Dw
  try clear E9
  try clear Dx
  try clear Ea
  obtain ⟨kq, Ec, rfl, HA, Gt, B0, B1, HB⟩ := hcut
  cases kq with
  | zero => exact absurd HA.out (by simp [r34_Calm.j0])
  | succ L9 =>
   have H := HA.out
   clear HA
   simp only [r34_Calm.j0] at H
   by_cases Gq : Ec = true
   ·subst Gq
    rw [if_pos rfl] at H
    obtain rfl := Option.some.inj H
    go_wp2
    go_ret
    exact ⟨by first | rfl | (simp [*] <;> rfl), by repeat (first | (with_reducible first | exact HB.out | apply ba_ | apply bn_ | apply bd_ | refine bs_ ?_ Bs.out | refine bs_ ?_ Br.out) | exact HB.out)⟩
   ·replace Gq := Bool.eq_false_iff.mpr Gq
    subst Gq
    rw [if_neg (show ¬ (false = true) by decide)] at H
    obtain ⟨B4, Mc, H⟩ := bes_ H
    try dsimp only at H
    have H' := am_ H
    clear H
    have Lm := B5.out
    have Ln := B9.out
    have Ff := cells_14 B0.out
    have Fg := frozen_14 B0.out
    go_wp2_with (first | ((with_reducible refine gate_load (t := 28) (x := .tmp 2) rfl ?_); refine lrg_ 28 (.tmp 2) Bw 28 (by exact B0.out) Try.underlying28 ?_) | ((with_reducible refine gate_callee (f := 24) rfl ?_); refine gom_ (some 50) Try.func24 (r33_Honest.calls L9 Bk Bl Bb Bm B7 B8 Bn Bo Bp Bq _ _ B3 _ _ Bi _ _ Bj _ _ B2 B4 _ (Kd.C_below D3.out HB.out) D4.out (Kd.C_below Dr.out HB.out) Ds.out (Kd.C_below Dt.out HB.out) Du.out (Kd.C_below D5.out HB.out) Dv.out Mc.out) ?_; rintro e w35 ⟨v407, rfl, Lo, hb⟩; refine ⟨_, rfl, ?_⟩; have Fh := am_ (Kd.R_lower Lo (below_size HB.out)); replace B0 := bkb_ B0 hb; replace B1 := bkb_ B1 hb; replace HB := bst_ HB hb; (try clear hb); (try clear Lo); obtain ⟨J3, Eb, La⟩ := Kd.R_slice Fh.out; subst La))
    go_loopg [53] L9 (fun kq v53 w' => ∃ (Ba : Int), v53 = .int .i64 Ba ∧ Aside0 (r34_Calm.l0 kq a1 B4 B4 (B4.length : Int) Ba Bk Bl Bb Bm B7 B8 Bn Bo Bp Bq B3 Bi Bj B2 Bk Bl Bb Bm B7 B8 Bn Bo Bp Bq B3 = some r) ∧ Aside0 (kq ≤ L9) ∧ Aside0 (Kd.R (Kd.int .i64) 3 w' w.heap.size (fun _ => True) (.slice J3 B4.length Eb) B4) ∧ Aside0 (Kd.R (Kd.int .i64) 3 w' w.heap.size (fun _ => True) (.slice J3 B4.length Eb) B4) ∧ Aside0 (w'.heap[Bw]? = some (.cells #[.int .i64 Bk, .int .i64 Bl, .int .i64 Bb, .int .i64 Bm, .int .i64 B7, .int .i64 B8, .int .i64 Bn, .int .i64 Bo, .int .i64 Bp, .int .i64 Bq, (.slice Bu B3.length Bv), (.slice Dk Bi.length Dl), (.slice Dm Bj.length Dn), (.slice Do B2.length Dp)] 28 (0, 0))) ∧ Aside0 (w'.heap[E0]? = some (.cells #[.int .i64 Bk, .int .i64 Bl, .int .i64 Bb, .int .i64 Bm, .int .i64 B7, .int .i64 B8, .int .i64 Bn, .int .i64 Bo, .int .i64 Bp, .int .i64 Bq, (.slice Bu B3.length Bv)] 24 (0, 0))) ∧ Aside0 (Below w.heap.size w w'))
    case atStart => exact ⟨(0), (by first | rfl | (simp; done) | (simp [*]; done)), H', ⟨Nat.le_refl _⟩, ⟨by (with_reducible repeat (first | apply Kd.R_alloc | apply Kd.R_drewN | apply Kd.R_drew)); exact Fh.out⟩, ⟨by (with_reducible repeat (first | apply Kd.R_alloc | apply Kd.R_drewN | apply Kd.R_drew)); exact Fh.out⟩, ⟨by (with_reducible repeat (first | apply kn_ | apply kd_ | apply ka_)); exact B0.out⟩, ⟨by (with_reducible repeat (first | apply kn_ | apply kd_ | apply ka_)); exact B1.out⟩, ⟨by repeat (first | (with_reducible first | exact HB.out | apply ba_ | apply bn_ | apply bd_ | refine bs_ ?_ Bs.out | refine bs_ ?_ Br.out) | exact HB.out)⟩⟩
    case round =>
     clear H'
     try clear c1
     try clear c2
     try clear p2
     try clear c3
     try clear c4
     try clear p4
     try clear q4
     try clear hx4
     try clear c8
     try clear E1
     try clear c9
     try clear Fc
     try clear c10
     try clear Fe
     try clear E3
     try clear E4
     try clear G1
     try clear Ef
     try clear G2
     try clear Eg
     try clear Fm
     try clear E5
     try clear E6
     try clear c17
     try clear c22
     try clear c24
     try clear c27
     try clear c29
     try clear Gq
     try clear c33
     try clear Ed
     try clear Eh
     try clear Ej
     try clear hcz21_0 hcz21_1 hcz21_2 hcz21_3 hcz21_4 hcz21_5 hcz21_6 hcz21_7 hcz21_8 hcz21_9 hcz21_10 hcz21_11 hcz21_12 hcz21_13
     try clear hcz23
     try clear hcz24
     try clear hcz26_0 hcz26_1 hcz26_2 hcz26_3 hcz26_4 hcz26_5 hcz26_6 hcz26_7 hcz26_8 hcz26_9 hcz26_10 hcz26_11 hcz26_12 hcz26_13
     try clear Ex
     try clear Ez
     try clear Ff
     try clear hcz5_0 hcz5_1 hcz5_2 hcz5_3 hcz5_4 hcz5_5 hcz5_6 hcz5_7 hcz5_8 hcz5_9 hcz5_10 hcz5_11 hcz5_12 hcz5_13
     try clear Ee
     try clear Ei
     try clear Ek
     try clear hfz21_0 hfz21_1 hfz21_2 hfz21_3 hfz21_4 hfz21_5 hfz21_6 hfz21_7 hfz21_8 hfz21_9 hfz21_10 hfz21_11 hfz21_12 hfz21_13
     try clear hfz23
     try clear hfz24
     try clear hfz26_0 hfz26_1 hfz26_2 hfz26_3 hfz26_4 hfz26_5 hfz26_6 hfz26_7 hfz26_8 hfz26_9 hfz26_10 hfz26_11 hfz26_12 hfz26_13
     try clear Ey
     try clear F0
     try clear Fg
     try clear hfz5_0 hfz5_1 hfz5_2 hfz5_3 hfz5_4 hfz5_5 hfz5_6 hfz5_7 hfz5_8 hfz5_9 hfz5_10 hfz5_11 hfz5_12 hfz5_13
     try clear Bc
     try clear Bd
     try clear Be
     try clear Bf
     try clear Bg
     try clear Bh
     try clear Bx
     try clear By
     try clear Bz
     try clear D0
     try clear D1
     try clear D2
     try clear p2
     try clear p4
     try clear Dw
     try clear E9
     try clear q4
     try clear Dx
     try clear Ea
     obtain ⟨Ba, rfl, HA, Gu, D6, Bt, B0, B1, HB⟩ := hrel
     cases gk with
     | zero => exact absurd HA.out (by simp [r34_Calm.l0])
     | succ k2 =>
      have H := HA.out
      clear HA
      simp only [r34_Calm.l0] at H
      by_cases G4 : Ba < (B4.length : Int)
      ·rw [if_pos G4] at H
       have Fi : decide (Ba < (B4.length : Int)) = true := decide_eq_true G4
       clear G4
       by_cases Gv : 0 ≤ Ba
       ·rw [if_pos Gv] at H
        have G5 : decide (0 ≤ Ba) = true := decide_eq_true Gv
        clear Gv
        by_cases Gw : Ba < (B4.length : Int)
        ·rw [if_pos Gw] at H
         have G6 : decide (Ba < (B4.length : Int)) = true := decide_eq_true Gw
         clear Gw
         obtain ⟨Fz, Md, H⟩ := bes_ H
         try dsimp only at H
         have Gr := am_ H
         clear H
         have Fj : 0 ≤ (Ba : Int) := of_decide_eq_true (by first | (with_reducible assumption) | assumption)
         have Fk : Ba < (B4.length : Int) := of_decide_eq_true (by first | (with_reducible assumption) | assumption)
         obtain ⟨Dq, Lb, F1⟩ := Kd.at_int (Kd.R_reads' Bt.out).2.2 Ba Fj Fk
         cases Lb
         replace Fj := eq_true Fj
         replace Fk := eq_true Fk
         have Lp := B5.out
         have Lq := B9.out
         have G7 := cells_14 B0.out
         have G8 := frozen_14 B0.out
         go_upto_region 9 with (first | ((with_reducible refine gate_load (t := 28) (x := .tmp 2) rfl ?_); refine lrg_ 28 (.tmp 2) Bw 28 (by exact B0.out) Try.underlying28 ?_) | ((with_reducible refine gate_callee (f := 15) rfl ?_); refine gom_ (some 60) Try.func15 (r33_Units.calls k2 Bk Bl Bb Bm B7 B8 Bn Bo Bp Bq _ _ B3 _ _ Bi _ _ Bj _ _ B2 a1 (rd B4 Ba) _ _ (Kd.C_below D3.out HB.out) D4.out (Kd.C_below Dr.out HB.out) Ds.out (Kd.C_below Dt.out HB.out) Du.out (Kd.C_below D5.out HB.out) Dv.out Md.out) ?_; rintro e w44 ⟨rfl, hb⟩; refine ⟨_, rfl, ?_⟩; replace D6 := am_ (Kd.R_below D6.out hb); replace Bt := am_ (Kd.R_below Bt.out hb); replace B0 := bkb_ B0 hb; replace B1 := bkb_ B1 hb; replace HB := bst_ HB hb; (try clear hb)))
         (try simp only [Act.put, zs_])
         go_cut [76] (fun v76 wc => ∃ (kq : Nat) (E2 : Bool), v76 = .bool E2 ∧ Aside0 (r34_Calm.j2 kq a1 B4 (rd B4 Ba) B4 (B4.length : Int) Ba E2 Bk Bl Bb Bm B7 B8 Bn Bo Bp Bq B3 Bi Bj B2 Bk Bl Bb Bm B7 B8 Bn Bo Bp Bq B3 = some r) ∧ Aside0 (kq ≤ k2) ∧ Aside0 (Kd.R (Kd.int .i64) 3 wc w.heap.size (fun _ => True) (.slice (some Dq) B4.length Eb) B4) ∧ Aside0 (Kd.R (Kd.int .i64) 3 wc w.heap.size (fun _ => True) (.slice (some Dq) B4.length Eb) B4) ∧ Aside0 (wc.heap[Bw]? = some (.cells #[.int .i64 Bk, .int .i64 Bl, .int .i64 Bb, .int .i64 Bm, .int .i64 B7, .int .i64 B8, .int .i64 Bn, .int .i64 Bo, .int .i64 Bp, .int .i64 Bq, (.slice Bu B3.length Bv), (.slice Dk Bi.length Dl), (.slice Dm Bj.length Dn), (.slice Do B2.length Dp)] 28 (0, 0))) ∧ Aside0 (wc.heap[E0]? = some (.cells #[.int .i64 Bk, .int .i64 Bl, .int .i64 Bb, .int .i64 Bm, .int .i64 B7, .int .i64 B8, .int .i64 Bn, .int .i64 Bo, .int .i64 Bp, .int .i64 Bq, (.slice Bu B3.length Bv)] 24 (0, 0))) ∧ Aside0 (Below w.heap.size w wc))
         case first =>
          have H := Gr.out
          clear Gr
          by_cases Gs : Fz < (wrap64 (B7 - B8))
          rw [if_pos Gs] at H
          have E7 : decide (Fz < (wrap64 (B7 - B8))) = true := decide_eq_true Gs
          rotate_left
          rw [if_neg Gs] at H
          have E7 : decide (Fz < (wrap64 (B7 - B8))) = false := decide_eq_false Gs
          rotate_left
          all_goals
           clear Gs
           (first | rw [E7] | (simp only [i64_w, i32_w]; rw [E7]) | skip)
           have H' := am_ H
           clear H
           have Lr := B9.out
           have Ls := B5.out
           have G9 := cells_11 B1.out
           have Ga := frozen_11 B1.out
           go_wp2
           go_meet
          ·case rel => exact ⟨_, (true), (by first | rfl | (simp; done) | (simp [*]; done)), H', ⟨by have := Gt.out; have := Gu.out; first | omega | exact Nat.le_refl _⟩, ⟨by (with_reducible repeat (first | apply Kd.R_alloc | apply Kd.R_drewN | apply Kd.R_drew)); exact D6.out⟩, ⟨by (with_reducible repeat (first | apply Kd.R_alloc | apply Kd.R_drewN | apply Kd.R_drew)); exact Bt.out⟩, ⟨by (with_reducible repeat (first | apply kn_ | apply kd_ | apply ka_)); exact B0.out⟩, ⟨by (with_reducible repeat (first | apply kn_ | apply kd_ | apply ka_)); exact B1.out⟩, ⟨by repeat (first | (with_reducible first | exact HB.out | apply ba_ | apply bn_ | apply bd_ | refine bs_ ?_ Bs.out | refine bs_ ?_ Br.out) | exact HB.out)⟩⟩
          ·case rel => exact ⟨_, (decide (Fz > (wrap64 (B7 + B8)))), (by first | rfl | (simp; done) | (simp [*]; done)), H', ⟨by have := Gt.out; have := Gu.out; first | omega | exact Nat.le_refl _⟩, ⟨by (with_reducible repeat (first | apply Kd.R_alloc | apply Kd.R_drewN | apply Kd.R_drew)); exact D6.out⟩, ⟨by (with_reducible repeat (first | apply Kd.R_alloc | apply Kd.R_drewN | apply Kd.R_drew)); exact Bt.out⟩, ⟨by (with_reducible repeat (first | apply kn_ | apply kd_ | apply ka_)); exact B0.out⟩, ⟨by (with_reducible repeat (first | apply kn_ | apply kd_ | apply ka_)); exact B1.out⟩, ⟨by repeat (first | (with_reducible first | exact HB.out | apply ba_ | apply bn_ | apply bd_ | refine bs_ ?_ Bs.out | refine bs_ ?_ Br.out) | exact HB.out)⟩⟩
         case rest =>
          clear Gr
          try clear c1
          try clear c2
          try clear p2
          try clear c3
          try clear c4
          try clear p4
          try clear q4
          try clear hx4
          try clear p6
          try clear c8
          try clear E1
          try clear c9
          try clear Fc
          try clear c10
          try clear Fe
          try clear E3
          try clear E4
          try clear G1
          try clear Ef
          try clear G2
          try clear Eg
          try clear Fm
          try clear E5
          try clear E6
          try clear c17
          try clear c22
          try clear c24
          try clear c27
          try clear c29
          try clear Gq
          try clear c33
          try clear G4
          try clear Fi
          try clear Gv
          try clear G5
          try clear Gw
          try clear G6
          try clear p40
          try clear q40
          try clear hx40
          try clear c42
          try clear Gs
          try clear E7
          try clear c46
          try clear c48
          try clear Ed
          try clear Eh
          try clear Ej
          try clear hcz21_0 hcz21_1 hcz21_2 hcz21_3 hcz21_4 hcz21_5 hcz21_6 hcz21_7 hcz21_8 hcz21_9 hcz21_10 hcz21_11 hcz21_12 hcz21_13
          try clear hcz23
          try clear hcz24
          try clear hcz26_0 hcz26_1 hcz26_2 hcz26_3 hcz26_4 hcz26_5 hcz26_6 hcz26_7 hcz26_8 hcz26_9 hcz26_10 hcz26_11 hcz26_12 hcz26_13
          try clear Ex
          try clear Ez
          try clear Ff
          try clear G7
          try clear G9
          try clear hcz49
          try clear hcz5_0 hcz5_1 hcz5_2 hcz5_3 hcz5_4 hcz5_5 hcz5_6 hcz5_7 hcz5_8 hcz5_9 hcz5_10 hcz5_11 hcz5_12 hcz5_13
          try clear Ee
          try clear Ei
          try clear Ek
          try clear hfz21_0 hfz21_1 hfz21_2 hfz21_3 hfz21_4 hfz21_5 hfz21_6 hfz21_7 hfz21_8 hfz21_9 hfz21_10 hfz21_11 hfz21_12 hfz21_13
          try clear hfz23
          try clear hfz24
          try clear hfz26_0 hfz26_1 hfz26_2 hfz26_3 hfz26_4 hfz26_5 hfz26_6 hfz26_7 hfz26_8 hfz26_9 hfz26_10 hfz26_11 hfz26_12 hfz26_13
          try clear Ey
          try clear F0
          try clear Fg
          try clear G8
          try clear Ga
          try clear hfz49
          try clear hfz5_0 hfz5_1 hfz5_2 hfz5_3 hfz5_4 hfz5_5 hfz5_6 hfz5_7 hfz5_8 hfz5_9 hfz5_10 hfz5_11 hfz5_12 hfz5_13
          try clear Bc
          try clear Bd
          try clear Be
          try clear Bf
          try clear Bg
          try clear Bh
          try clear Bx
          try clear By
          try clear Bz
          try clear D0
          try clear D1
          try clear D2
          try clear F1
          try clear p2
          try clear p4
          try clear Dw
          try clear E9
          try clear Fj
          try clear q4
          try clear Dx
          try clear Ea
          try clear Fk
          obtain ⟨kq, E2, rfl, HA, G0, D6, Bt, B0, B1, HB⟩ := hcut
          cases kq with
          | zero => exact absurd HA.out (by simp [r34_Calm.j2])
          | succ J4 =>
           have H := HA.out
           clear HA
           simp only [r34_Calm.j2] at H
           by_cases J5 : E2 = true
           ·subst J5
            rw [if_pos rfl] at H
            obtain rfl := Option.some.inj H
            go_wp2
            go_ret
            exact ⟨by first | rfl | (simp [*] <;> rfl), by repeat (first | (with_reducible first | exact HB.out | apply ba_ | apply bn_ | apply bd_ | refine bs_ ?_ Bs.out | refine bs_ ?_ Br.out) | exact HB.out)⟩
           ·replace J5 := Bool.eq_false_iff.mpr J5
            subst J5
            rw [if_neg (show ¬ (false = true) by decide)] at H
            have H' := am_ H
            clear H
            go_wp2
            go_loopg [79] J4 (fun kq v79 w' => ∃ (B6 : Int), v79 = .int .i64 B6 ∧ Aside0 (r34_Calm.l1 kq a1 B4 (rd B4 Ba) B4 (B4.length : Int) Ba B4 (B4.length : Int) B6 Bk Bl Bb Bm B7 B8 Bn Bo Bp Bq B3 Bi Bj B2 Bk Bl Bb Bm B7 B8 Bn Bo Bp Bq B3 = some r) ∧ Aside0 (kq ≤ J4) ∧ Aside0 (Kd.R (Kd.int .i64) 3 w' w.heap.size (fun _ => True) (.slice (some Dq) B4.length Eb) B4) ∧ Aside0 (Kd.R (Kd.int .i64) 3 w' w.heap.size (fun _ => True) (.slice (some Dq) B4.length Eb) B4) ∧ Aside0 (Kd.R (Kd.int .i64) 3 w' w.heap.size (fun _ => True) (.slice (some Dq) B4.length Eb) B4) ∧ Aside0 (w'.heap[Bw]? = some (.cells #[.int .i64 Bk, .int .i64 Bl, .int .i64 Bb, .int .i64 Bm, .int .i64 B7, .int .i64 B8, .int .i64 Bn, .int .i64 Bo, .int .i64 Bp, .int .i64 Bq, (.slice Bu B3.length Bv), (.slice Dk Bi.length Dl), (.slice Dm Bj.length Dn), (.slice Do B2.length Dp)] 28 (0, 0))) ∧ Aside0 (w'.heap[E0]? = some (.cells #[.int .i64 Bk, .int .i64 Bl, .int .i64 Bb, .int .i64 Bm, .int .i64 B7, .int .i64 B8, .int .i64 Bn, .int .i64 Bo, .int .i64 Bp, .int .i64 Bq, (.slice Bu B3.length Bv)] 24 (0, 0))) ∧ Aside0 (Below w.heap.size w w'))
            case atStart => exact ⟨(0), (by first | rfl | (simp; done) | (simp [*]; done)), H', ⟨Nat.le_refl _⟩, ⟨by (with_reducible repeat (first | apply Kd.R_alloc | apply Kd.R_drewN | apply Kd.R_drew)); exact D6.out⟩, ⟨by (with_reducible repeat (first | apply Kd.R_alloc | apply Kd.R_drewN | apply Kd.R_drew)); exact Bt.out⟩, ⟨by (with_reducible repeat (first | apply Kd.R_alloc | apply Kd.R_drewN | apply Kd.R_drew)); exact D6.out⟩, ⟨by (with_reducible repeat (first | apply kn_ | apply kd_ | apply ka_)); exact B0.out⟩, ⟨by (with_reducible repeat (first | apply kn_ | apply kd_ | apply ka_)); exact B1.out⟩, ⟨by repeat (first | (with_reducible first | exact HB.out | apply ba_ | apply bn_ | apply bd_ | refine bs_ ?_ Bs.out | refine bs_ ?_ Br.out) | exact HB.out)⟩⟩
            case round =>
             clear H'
             try clear c1
             try clear c2
             try clear p2
             try clear c3
             try clear c4
             try clear p4
             try clear q4
             try clear hx4
             try clear c5
             try clear p6
             try clear c8
             try clear E1
             try clear c9
             try clear Fc
             try clear c10
             try clear Fe
             try clear E3
             try clear E4
             try clear G1
             try clear Ef
             try clear G2
             try clear Eg
             try clear Fm
             try clear E5
             try clear E6
             try clear c17
             try clear c22
             try clear c24
             try clear c27
             try clear c29
             try clear Gq
             try clear c33
             try clear G4
             try clear Fi
             try clear Gv
             try clear G5
             try clear Gw
             try clear G6
             try clear p40
             try clear q40
             try clear hx40
             try clear c42
             try clear Gs
             try clear E7
             try clear c46
             try clear c48
             try clear J5
             try clear Ed
             try clear Eh
             try clear Ej
             try clear hcz21_0 hcz21_1 hcz21_2 hcz21_3 hcz21_4 hcz21_5 hcz21_6 hcz21_7 hcz21_8 hcz21_9 hcz21_10 hcz21_11 hcz21_12 hcz21_13
             try clear hcz23
             try clear hcz24
             try clear hcz26_0 hcz26_1 hcz26_2 hcz26_3 hcz26_4 hcz26_5 hcz26_6 hcz26_7 hcz26_8 hcz26_9 hcz26_10 hcz26_11 hcz26_12 hcz26_13
             try clear Ex
             try clear Ez
             try clear Ff
             try clear G7
             try clear G9
             try clear hcz49
             try clear hcz5_0 hcz5_1 hcz5_2 hcz5_3 hcz5_4 hcz5_5 hcz5_6 hcz5_7 hcz5_8 hcz5_9 hcz5_10 hcz5_11 hcz5_12 hcz5_13
             try clear Ee
             try clear Ei
             try clear Ek
             try clear hfz21_0 hfz21_1 hfz21_2 hfz21_3 hfz21_4 hfz21_5 hfz21_6 hfz21_7 hfz21_8 hfz21_9 hfz21_10 hfz21_11 hfz21_12 hfz21_13
             try clear hfz23
             try clear hfz24
             try clear hfz26_0 hfz26_1 hfz26_2 hfz26_3 hfz26_4 hfz26_5 hfz26_6 hfz26_7 hfz26_8 hfz26_9 hfz26_10 hfz26_11 hfz26_12 hfz26_13
             try clear Ey
             try clear F0
             try clear Fg
             try clear G8
             try clear Ga
             try clear hfz49
             try clear hfz5_0 hfz5_1 hfz5_2 hfz5_3 hfz5_4 hfz5_5 hfz5_6 hfz5_7 hfz5_8 hfz5_9 hfz5_10 hfz5_11 hfz5_12 hfz5_13
             try clear Bc
             try clear Bd
             try clear Be
             try clear Bf
             try clear Bg
             try clear Bh
             try clear Bx
             try clear By
             try clear Bz
             try clear D0
             try clear D1
             try clear D2
             try clear F1
             try clear p2
             try clear p4
             try clear p40
             try clear Dw
             try clear E9
             try clear Fj
             try clear p6
             try clear q4
             try clear q40
             try clear Dx
             try clear Ea
             try clear Fk
             obtain ⟨B6, rfl, HA, Jl, D6, Bt, D7, B0, B1, HB⟩ := hrel
             cases gk with
             | zero => exact absurd HA.out (by simp [r34_Calm.l1])
             | succ k4 =>
              have H := HA.out
              clear HA
              simp only [r34_Calm.l1] at H
              by_cases Gx : B6 < (B4.length : Int)
              ·rw [if_pos Gx] at H
               have J6 : decide (B6 < (B4.length : Int)) = true := decide_eq_true Gx
               clear Gx
               by_cases Jm : 0 ≤ B6
               ·rw [if_pos Jm] at H
                have Lt : decide (0 ≤ B6) = true := decide_eq_true Jm
                clear Jm
                by_cases Jn : B6 < (B4.length : Int)
                ·rw [if_pos Jn] at H
                 have Lu : decide (B6 < (B4.length : Int)) = true := decide_eq_true Jn
                 clear Jn
                 obtain ⟨F3, Lc, H⟩ := bes_ H
                 try dsimp only at H
                 by_cases Gy : F3 < 1
                 ·rw [if_pos Gy] at H
                  have J7 : decide (F3 < 1) = true := decide_eq_true Gy
                  clear Gy
                  obtain rfl := Option.some.inj H
                  have Dy : 0 ≤ (B6 : Int) := of_decide_eq_true (by first | (with_reducible assumption) | assumption)
                  have Dz : B6 < (B4.length : Int) := of_decide_eq_true (by first | (with_reducible assumption) | assumption)
                  obtain ⟨E8, Fl, F2⟩ := Kd.at_int (Kd.R_reads' D7.out).2.2 B6 Dy Dz
                  obtain rfl : Dq = E8 := (by injection Fl)
                  replace Dy := eq_true Dy
                  replace Dz := eq_true Dz
                  have Lv := B5.out
                  have Lw := B9.out
                  have Lx := cells_14 B0.out
                  have Ly := frozen_14 B0.out
                  go_wp2_with (first | ((with_reducible refine gate_load (t := 28) (x := .tmp 2) rfl ?_); refine lrg_ 28 (.tmp 2) Bw 28 (by exact B0.out) Try.underlying28 ?_) | ((with_reducible refine gate_callee (f := 17) rfl ?_); refine gom_ (some 87) Try.func17 (r33_Delay.calls k4 Bk Bl Bb Bm B7 B8 Bn Bo Bp Bq _ _ B3 _ _ Bi _ _ Bj _ _ B2 a1 (rd B4 Ba) (rd B4 B6) _ _ (Kd.C_below D3.out HB.out) D4.out (Kd.C_below Dr.out HB.out) Ds.out (Kd.C_below Dt.out HB.out) Du.out (Kd.C_below D5.out HB.out) Dv.out Lc.out) ?_; rintro e w58 ⟨rfl, hb⟩; refine ⟨_, rfl, ?_⟩; replace D6 := am_ (Kd.R_below D6.out hb); replace Bt := am_ (Kd.R_below Bt.out hb); replace D7 := am_ (Kd.R_below D7.out hb); replace B0 := bkb_ B0 hb; replace B1 := bkb_ B1 hb; replace HB := bst_ HB hb; (try clear hb)))
                  go_ret
                  exact ⟨by first | rfl | (simp [*] <;> rfl), by repeat (first | (with_reducible first | exact HB.out | apply ba_ | apply bn_ | apply bd_ | refine bs_ ?_ Bs.out | refine bs_ ?_ Br.out) | exact HB.out)⟩
                 ·rw [if_neg Gy] at H
                  have J7 : decide (F3 < 1) = false := decide_eq_false Gy
                  clear Gy
                  by_cases Gz : F3 > Bb
                  ·rw [if_pos Gz] at H
                   have J8 : decide (Bb < F3) = true := decide_eq_true Gz
                   clear Gz
                   obtain rfl := Option.some.inj H
                   have Dy : 0 ≤ (B6 : Int) := of_decide_eq_true (by first | (with_reducible assumption) | assumption)
                   have Dz : B6 < (B4.length : Int) := of_decide_eq_true (by first | (with_reducible assumption) | assumption)
                   obtain ⟨E8, Fl, F2⟩ := Kd.at_int (Kd.R_reads' D7.out).2.2 B6 Dy Dz
                   obtain rfl : Dq = E8 := (by injection Fl)
                   replace Dy := eq_true Dy
                   replace Dz := eq_true Dz
                   have Lz := B5.out
                   have M0 := B9.out
                   have M1 := cells_14 B0.out
                   have M2 := frozen_14 B0.out
                   go_wp2_with (first | ((with_reducible refine gate_load (t := 28) (x := .tmp 2) rfl ?_); refine lrg_ 28 (.tmp 2) Bw 28 (by exact B0.out) Try.underlying28 ?_) | ((with_reducible refine gate_callee (f := 17) rfl ?_); refine gom_ (some 87) Try.func17 (r33_Delay.calls k4 Bk Bl Bb Bm B7 B8 Bn Bo Bp Bq _ _ B3 _ _ Bi _ _ Bj _ _ B2 a1 (rd B4 Ba) (rd B4 B6) _ _ (Kd.C_below D3.out HB.out) D4.out (Kd.C_below Dr.out HB.out) Ds.out (Kd.C_below Dt.out HB.out) Du.out (Kd.C_below D5.out HB.out) Dv.out Lc.out) ?_; rintro e w62 ⟨rfl, hb⟩; refine ⟨_, rfl, ?_⟩; replace D6 := am_ (Kd.R_below D6.out hb); replace Bt := am_ (Kd.R_below Bt.out hb); replace D7 := am_ (Kd.R_below D7.out hb); replace B0 := bkb_ B0 hb; replace B1 := bkb_ B1 hb; replace HB := bst_ HB hb; (try clear hb); have M3 := cells_11 B1.out; have M4 := frozen_11 B1.out))
                   go_ret
                   exact ⟨by first | rfl | (simp [*] <;> rfl), by repeat (first | (with_reducible first | exact HB.out | apply ba_ | apply bn_ | apply bd_ | refine bs_ ?_ Bs.out | refine bs_ ?_ Br.out) | exact HB.out)⟩
                  ·rw [if_neg Gz] at H
                   have J8 : decide (Bb < F3) = false := decide_eq_false Gz
                   clear Gz
                   have H' := am_ H
                   clear H
                   have Dy : 0 ≤ (B6 : Int) := of_decide_eq_true (by first | (with_reducible assumption) | assumption)
                   have Dz : B6 < (B4.length : Int) := of_decide_eq_true (by first | (with_reducible assumption) | assumption)
                   obtain ⟨E8, Fl, F2⟩ := Kd.at_int (Kd.R_reads' D7.out).2.2 B6 Dy Dz
                   obtain rfl : Dq = E8 := (by injection Fl)
                   replace Dy := eq_true Dy
                   replace Dz := eq_true Dz
                   have M5 := B5.out
                   have M6 := B9.out
                   have M7 := cells_14 B0.out
                   have M8 := frozen_14 B0.out
                   go_wp2_with (first | ((with_reducible refine gate_load (t := 28) (x := .tmp 2) rfl ?_); refine lrg_ 28 (.tmp 2) Bw 28 (by exact B0.out) Try.underlying28 ?_) | ((with_reducible refine gate_callee (f := 17) rfl ?_); refine gom_ (some 87) Try.func17 (r33_Delay.calls k4 Bk Bl Bb Bm B7 B8 Bn Bo Bp Bq _ _ B3 _ _ Bi _ _ Bj _ _ B2 a1 (rd B4 Ba) (rd B4 B6) _ _ (Kd.C_below D3.out HB.out) D4.out (Kd.C_below Dr.out HB.out) Ds.out (Kd.C_below Dt.out HB.out) Du.out (Kd.C_below D5.out HB.out) Dv.out Lc.out) ?_; rintro e w66 ⟨rfl, hb⟩; refine ⟨_, rfl, ?_⟩; replace D6 := am_ (Kd.R_below D6.out hb); replace Bt := am_ (Kd.R_below Bt.out hb); replace D7 := am_ (Kd.R_below D7.out hb); replace B0 := bkb_ B0 hb; replace B1 := bkb_ B1 hb; replace HB := bst_ HB hb; (try clear hb); have M9 := cells_11 B1.out; have Ma := frozen_11 B1.out))
                   go_roundg k4
                   case measure => have := Gt.out; have := Gu.out; have := G0.out; have := Jl.out; omega
                   case rel => exact ⟨(wrap64 (B6 + 1)), (by first | rfl | (simp; done) | (simp [*]; done)), H', ⟨by have := Gt.out; have := Gu.out; have := G0.out; have := Jl.out; omega⟩, ⟨by (with_reducible repeat (first | apply Kd.R_alloc | apply Kd.R_drewN | apply Kd.R_drew)); exact D6.out⟩, ⟨by (with_reducible repeat (first | apply Kd.R_alloc | apply Kd.R_drewN | apply Kd.R_drew)); exact Bt.out⟩, ⟨by (with_reducible repeat (first | apply Kd.R_alloc | apply Kd.R_drewN | apply Kd.R_drew)); exact D7.out⟩, ⟨by (with_reducible repeat (first | apply kn_ | apply kd_ | apply ka_)); exact B0.out⟩, ⟨by (with_reducible repeat (first | apply kn_ | apply kd_ | apply ka_)); exact B1.out⟩, ⟨by repeat (first | (with_reducible first | exact HB.out | apply ba_ | apply bn_ | apply bd_ | refine bs_ ?_ Bs.out | refine bs_ ?_ Br.out) | exact HB.out)⟩⟩
                ·rw [if_neg Jn] at H
                 exact absurd H (by simp)
               ·rw [if_neg Jm] at H
                exact absurd H (by simp)
              ·rw [if_neg Gx] at H
               have J6 : decide (B6 < (B4.length : Int)) = false := decide_eq_false Gx
               clear Gx
               have H' := am_ H
               clear H
               go_wp2
               go_roundg k4
               case measure => have := Gt.out; have := Gu.out; have := G0.out; have := Jl.out; omega
               case rel => exact ⟨(wrap64 (Ba + 1)), (by first | rfl | (simp; done) | (simp [*]; done)), H', ⟨by have := Gt.out; have := Gu.out; have := G0.out; have := Jl.out; omega⟩, ⟨by (with_reducible repeat (first | apply Kd.R_alloc | apply Kd.R_drewN | apply Kd.R_drew)); exact D6.out⟩, ⟨by (with_reducible repeat (first | apply Kd.R_alloc | apply Kd.R_drewN | apply Kd.R_drew)); exact Bt.out⟩, ⟨by (with_reducible repeat (first | apply kn_ | apply kd_ | apply ka_)); exact B0.out⟩, ⟨by (with_reducible repeat (first | apply kn_ | apply kd_ | apply ka_)); exact B1.out⟩, ⟨by repeat (first | (with_reducible first | exact HB.out | apply ba_ | apply bn_ | apply bd_ | refine bs_ ?_ Bs.out | refine bs_ ?_ Br.out) | exact HB.out)⟩⟩
        ·rw [if_neg Gw] at H
         exact absurd H (by simp)
       ·rw [if_neg Gv] at H
        exact absurd H (by simp)
      ·rw [if_neg G4] at H
       have Fi : decide (Ba < (B4.length : Int)) = false := decide_eq_false G4
       clear G4
       obtain rfl := Option.some.inj H
       go_wp2
       go_ret
       exact ⟨by first | rfl | (simp [*] <;> rfl), by repeat (first | (with_reducible first | exact HB.out | apply ba_ | apply bn_ | apply bd_ | refine bs_ ?_ Bs.out | refine bs_ ?_ Br.out) | exact HB.out)⟩
end Go.Proofs.Ythdoghhmooodjaa.Gn
