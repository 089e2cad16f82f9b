import Derived.Test.YtdnccjlfongdeaaZRoundFitsGn0
import Derived.Test.YtdnccjlfongdeaaZRoundFitsGn2
import Derived.Test.YtdnccjlfongdeaaZRoundFitsGn26
namespace Go.Proofs.Ytdnccjlfongdeaa.Gn
open Go.RowKit Go.Proofs.YtdnccjlfongdeaaW.PrintWords Go.Proofs.YtdnccjlfongdeaaW.PrintLast Go.Proofs.YtdnccjlfongdeaaW.PrintMore
attribute [local go_sem] max2_int min2_int max_two min_two max_three min_three max_four min_four   -- for this text's walks alone
set_option linter.unusedVariables false
set_option linter.unusedSimpArgs false
mutual
def r38_sizes.j0 : Nat → List Int → Bool → Int → Int → Int → Int → Int → Int → Int → Int → Int → Int → List Int → Int → ByteArray → List ByteArray → List (List (S45)) → Option (Bool)
 | 0, _, _, _, _, _, _, _, _, _, _, _, _, _, _, _, _, _ => none
 | k + 1, x1, Bg, B2, B3, B4, B5, B6, B7, B8, B9, Ba, Bb, Bc, Bd, Be, B0, B1 => if Bg = true then (some false) else (r38_sizes.l0 k x1 0 B2 B3 B4 B5 B6 B7 B8 B9 Ba Bb Bc Bd Be B0 B1)
def r38_sizes.l0 : Nat → List Int → Int → Int → Int → Int → Int → Int → Int → Int → Int → Int → Int → List Int → Int → ByteArray → List ByteArray → List (List (S45)) → Option (Bool)
 | 0, _, _, _, _, _, _, _, _, _, _, _, _, _, _, _, _, _ => none
 | k + 1, x1, x7, B2, B3, B4, B5, B6, B7, B8, B9, Ba, Bb, Bc, Bd, Be, B0, B1 => if x7 < B2 then (if 0 ≤ x7 then (if x7 < (B0.length : Int) then (if ((rdOf ByteArray.empty B0 x7).size : Int) > 16 then (some false) else ((r14_In.f k x1 x7).bind fun Bf => (if Bf = true then (if (rdOf ByteArray.empty B0 x7).toList = ([] : List UInt8) then (if x7 < (B1.length : Int) then (if ((rd_L3 B1 x7).length : Int) > 0 then (some false) else (r38_sizes.l0 k x1 (wrap64 (x7 + 1)) B2 B3 B4 B5 B6 B7 B8 B9 Ba Bb Bc Bd Be B0 B1)) else (none)) else (some false)) else (r38_sizes.l0 k x1 (wrap64 (x7 + 1)) B2 B3 B4 B5 B6 B7 B8 B9 Ba Bb Bc Bd Be B0 B1)))) else (none)) else (none)) else (some true)
end
def r38_sizes.f (k : Nat) (B0 B4 B5 B6 B7 B8 B9 Ba Bb Bc : Int) (B1 l1 : List Int) (Bd : Int) (Be : ByteArray) (B2 : List ByteArray) (B3 : List (List (S45))) : Option (Bool) := if (B2.length : Int) = B0 then (r38_sizes.j0 k l1 ((B3.length : Int) != B0) B0 B4 B5 B6 B7 B8 B9 Ba Bb Bc B1 Bd Be B2 B3) else (r38_sizes.j0 k l1 true B0 B4 B5 B6 B7 B8 B9 Ba Bb Bc B1 Bd Be B2 B3)
set_option maxHeartbeats 8000000 in
set_option maxRecDepth 100000 in
theorem r38_sizes.calls (k : Nat) (Bd Bx By Bz D0 D1 D2 D3 D4 D5 : Int) (Bu : Option Addr) (Bv : Nat) (Be : List Int) (A1 : Option Addr) (c1 : Nat) (l1 : List Int) (Bh : Int) (Bi : ByteArray) (Bm : Option Addr) (Bn : Nat) (B3 : List ByteArray) (Bo : Option Addr) (Bp : Nat) (B9 : List (List (S45))) (r : Bool) (w : World) (Di : Kd.C (Kd.int .i64) w Bu Be.length Be) (Dj : Be.length ≤ Bv) (G7 : Kd.C (Kd.int .i64) w A1 l1.length l1) (G8 : l1.length ≤ c1) (Dw : Kd.C Kd.string w Bm B3.length B3) (Dx : B3.length ≤ Bn) (Dy : Kd.C (Kd.slice 45 k45) w Bo B9.length B9) (Dz : B9.length ≤ Bp) (h : r38_sizes.f k Bd Bx By Bz D0 D1 D2 D3 D4 D5 Be l1 Bh Bi B3 B9 = some r) :
  Calls Try.prog 39 #[.agg #[.int .i64 Bd, .int .i64 Bx, .int .i64 By, .int .i64 Bz, .int .i64 D0, .int .i64 D1, .int .i64 D2, .int .i64 D3, .int .i64 D4, .int .i64 D5, .slice Bu Be.length Bv], .slice A1 l1.length c1, .agg #[.int .i64 Bh, .string Bi, .slice Bm B3.length Bn, .slice Bo B9.length Bp]] w fun e w' => e = .returned (.bool r) ∧ Below w.heap.size w w' := by
 have J7 := Try.underlying24
 have J8 := Try.underlying32
 have G3 := am_ Di
 have G4 := am_ Dj
 clear Di Dj
 have Eq := am_ G7
 have Er := am_ G8
 clear G7 G8
 have Bl := am_ Dw
 have G9 := am_ Dx
 clear Dw Dx
 have E0 := am_ Dy
 have Ga := am_ Dz
 clear Dy Dz
 have HB := am_ (Below.refl w.heap.size w)
 have H := h
 unfold r38_sizes.f at H
 clear h
 have G5 := am_ H
 clear H
 go_enter Try.func39, Try.ntmps39
 go_upto_region 1 with (first | ((with_reducible refine gate_dst (N := 3) rfl ?_); (try (refine gate_guard (by rfl) ?_; dsimp only)); refine bxe_ 3 24 #[.int .i64 Bd, .int .i64 Bx, .int .i64 By, .int .i64 Bz, .int .i64 D0, .int .i64 D1, .int .i64 D2, .int .i64 D3, .int .i64 D4, .int .i64 D5, .slice Bu Be.length Bv] ?_; intro E1 hg w5 hbox hb; have B5 := am_ (hbox); have Ed := gwk_ HB hg; have Bf := Ed; replace HB := bst_ HB hb; clear hb hbox hg) | ((with_reducible refine gate_dst (N := 5) rfl ?_); (try (refine gate_guard (by rfl) ?_; dsimp only)); refine bxe_ 5 32 #[.int .i64 Bh, .string Bi, .slice Bm B3.length Bn, .slice Bo B9.length Bp] ?_; intro B4 hg w6 hbox hb; have B0 := am_ (hbox); have Ee := gwk_ HB hg; have Bg := Ee; replace HB := bst_ HB hb; have B6 := nbk_ B5 hg; have B7 := nbs_ B6; replace B5 := bkb_ B5 hb; clear hb hbox hg))
 (try simp only [Act.put, zs_])
 go_cut [21] (fun v21 wc => ∃ (kq : Nat) (D9 : Bool), v21 = .bool D9 ∧ Aside0 (r38_sizes.j0 kq l1 D9 Bd Bx By Bz D0 D1 D2 D3 D4 D5 Be Bh Bi B3 B9 = some r) ∧ Aside0 (kq ≤ k) ∧ Aside0 (wc.heap[E1]? = some (.cells #[.int .i64 Bd, .int .i64 Bx, .int .i64 By, .int .i64 Bz, .int .i64 D0, .int .i64 D1, .int .i64 D2, .int .i64 D3, .int .i64 D4, .int .i64 D5, (.slice Bu Be.length Bv)] 24 (0, 0))) ∧ Aside0 (wc.heap[B4]? = some (.cells #[.int .i64 Bh, .string Bi, (.slice Bm B3.length Bn), (.slice Bo B9.length Bp)] 32 (0, 0))) ∧ Aside0 (Below w.heap.size w wc))
 case first =>
  have H := G5.out
  clear G5
  by_cases c7 : (B3.length : Int) = Bd
  ·rw [if_pos c7] at H
   have D6 : ((B3.length : Int) == Bd) = true := beq_iff_eq.mpr c7
   have E6 : ((B3.length : Int) != Bd) = false := bne_eq_false_iff_eq.mpr c7
   clear c7
   (first | rw [D6] | (simp only [i64_w, i32_w]; rw [D6]) | skip)
   have H' := am_ H
   clear H
   have J9 := B7.out
   have Ja := B6.out
   have Dk : w6.cell? ⟨B4, 0, none⟩ = some (.int .i64 Bh) := (blk_cell B0.out 0).trans rfl
   have Dl : w6.cell? ⟨B4, 1, none⟩ = some (.string Bi) := (blk_cell B0.out 1).trans rfl
   have Dm : w6.cell? ⟨B4, 2, none⟩ = some (.slice Bm B3.length Bn) := (blk_cell B0.out 2).trans rfl
   have Dn : w6.cell? ⟨B4, 3, none⟩ = some (.slice Bo B9.length Bp) := (blk_cell B0.out 3).trans rfl
   have Do := blk_frozen B0.out 0
   have Dp := blk_frozen B0.out 1
   have Dq := blk_frozen B0.out 2
   have Dr := blk_frozen B0.out 3
   have E2 := cells_11 B5.out
   have E3 := frozen_11 B5.out
   go_wp2
   go_meet
   case rel => exact ⟨_, (((B9.length : Int) != Bd)), (by first | rfl | (simp; done) | (simp [*]; done)), H', ⟨by first | omega | exact Nat.le_refl _⟩, ⟨by (with_reducible repeat (first | apply kn_ | apply kd_ | apply ka_)); exact B5.out⟩, ⟨by (with_reducible repeat (first | apply kn_ | apply kd_ | apply ka_)); exact B0.out⟩, ⟨by repeat (first | (with_reducible first | exact HB.out | apply ba_ | apply bn_ | apply bd_ | refine bs_ ?_ Bf.out | refine bs_ ?_ Bg.out) | exact HB.out)⟩⟩
  ·rw [if_neg c7] at H
   have D6 : ((B3.length : Int) == Bd) = false := beq_eq_false_iff_ne.mpr c7
   have E6 : ((B3.length : Int) != Bd) = true := bne_iff_ne.mpr c7
   (first | rw [D6] | (simp only [i64_w, i32_w]; rw [D6]) | skip)
   have H' := am_ H
   clear H
   have Gb := B7.out
   have Gc := B6.out
   have Da : w6.cell? ⟨B4, 0, none⟩ = some (.int .i64 Bh) := (blk_cell B0.out 0).trans rfl
   have Db : w6.cell? ⟨B4, 1, none⟩ = some (.string Bi) := (blk_cell B0.out 1).trans rfl
   have Dc : w6.cell? ⟨B4, 2, none⟩ = some (.slice Bm B3.length Bn) := (blk_cell B0.out 2).trans rfl
   have Dd : w6.cell? ⟨B4, 3, none⟩ = some (.slice Bo B9.length Bp) := (blk_cell B0.out 3).trans rfl
   have De := blk_frozen B0.out 0
   have Df := blk_frozen B0.out 1
   have Dg := blk_frozen B0.out 2
   have Dh := blk_frozen B0.out 3
   have E4 := cells_11 B5.out
   have E5 := frozen_11 B5.out
   go_wp2
   go_meet
   case rel => exact ⟨_, (true), (by first | rfl | (simp; done) | (simp [*]; done)), H', ⟨by first | omega | exact Nat.le_refl _⟩, ⟨by (with_reducible repeat (first | apply kn_ | apply kd_ | apply ka_)); exact B5.out⟩, ⟨by (with_reducible repeat (first | apply kn_ | apply kd_ | apply ka_)); exact B0.out⟩, ⟨by repeat (first | (with_reducible first | exact HB.out | apply ba_ | apply bn_ | apply bd_ | refine bs_ ?_ Bf.out | refine bs_ ?_ Bg.out) | exact HB.out)⟩⟩
 case rest =>
  clear G5
  try clear c1
  try clear c2
  try clear p2
  try clear c3
  try clear c7
  try clear D6
  try clear E6
  try clear c8
  try clear c11
  try clear E2
  try clear Da Db Dc Dd
  try clear E4
  try clear Dk Dl Dm Dn
  try clear E3
  try clear De Df Dg Dh
  try clear E5
  try clear Do Dp Dq Dr
  obtain ⟨kq, D9, rfl, HA, Es, B5, B0, HB⟩ := hcut
  cases kq with
  | zero => exact absurd HA.out (by simp [r38_sizes.j0])
  | succ Gd =>
   have H := HA.out
   clear HA
   simp only [r38_sizes.j0] at H
   by_cases Ef : D9 = true
   ·subst Ef
    rw [if_pos rfl] at H
    obtain rfl := Option.some.inj H
    go_wp2
    go_ret
    exact ⟨by first | rfl | (simp [*] <;> rfl), by repeat (first | (with_reducible first | exact HB.out | apply ba_ | apply bn_ | apply bd_ | refine bs_ ?_ Bf.out | refine bs_ ?_ Bg.out) | exact HB.out)⟩
   ·replace Ef := Bool.eq_false_iff.mpr Ef
    subst Ef
    rw [if_neg (show ¬ (false = true) by decide)] at H
    have H' := am_ H
    clear H
    go_wp2
    go_loopg [7] Gd (fun kq v7 w' => ∃ (B1 : Int), v7 = .int .i64 B1 ∧ Aside0 (r38_sizes.l0 kq l1 B1 Bd Bx By Bz D0 D1 D2 D3 D4 D5 Be Bh Bi B3 B9 = some r) ∧ Aside0 (kq ≤ Gd) ∧ Aside0 (w'.heap[E1]? = some (.cells #[.int .i64 Bd, .int .i64 Bx, .int .i64 By, .int .i64 Bz, .int .i64 D0, .int .i64 D1, .int .i64 D2, .int .i64 D3, .int .i64 D4, .int .i64 D5, (.slice Bu Be.length Bv)] 24 (0, 0))) ∧ Aside0 (w'.heap[B4]? = some (.cells #[.int .i64 Bh, .string Bi, (.slice Bm B3.length Bn), (.slice Bo B9.length Bp)] 32 (0, 0))) ∧ Aside0 (Below w.heap.size w w'))
    case atStart => exact ⟨(0), (by first | rfl | (simp; done) | (simp [*]; done)), H', ⟨Nat.le_refl _⟩, ⟨by (with_reducible repeat (first | apply kn_ | apply kd_ | apply ka_)); exact B5.out⟩, ⟨by (with_reducible repeat (first | apply kn_ | apply kd_ | apply ka_)); exact B0.out⟩, ⟨by repeat (first | (with_reducible first | exact HB.out | apply ba_ | apply bn_ | apply bd_ | refine bs_ ?_ Bf.out | refine bs_ ?_ Bg.out) | exact HB.out)⟩⟩
    case round =>
     clear H'
     try clear c1
     try clear c2
     try clear p2
     try clear c3
     try clear c7
     try clear D6
     try clear E6
     try clear c8
     try clear c11
     try clear Ef
     try clear E2
     try clear Da Db Dc Dd
     try clear E4
     try clear Dk Dl Dm Dn
     try clear E3
     try clear De Df Dg Dh
     try clear E5
     try clear Do Dp Dq Dr
     try clear p2
     obtain ⟨B1, rfl, HA, Et, B5, B0, HB⟩ := hrel
     cases gk with
     | zero => exact absurd HA.out (by simp [r38_sizes.l0])
     | succ k2 =>
      have H := HA.out
      clear HA
      simp only [r38_sizes.l0] at H
      by_cases Ea : B1 < Bd
      ·rw [if_pos Ea] at H
       have Eg : decide (B1 < Bd) = true := decide_eq_true Ea
       clear Ea
       by_cases Eu : 0 ≤ B1
       ·rw [if_pos Eu] at H
        have Ge : decide (0 ≤ B1) = true := decide_eq_true Eu
        clear Eu
        by_cases Ev : B1 < (B3.length : Int)
        ·rw [if_pos Ev] at H
         have Gf : decide (B1 < (B3.length : Int)) = true := decide_eq_true Ev
         clear Ev
         by_cases Eb : ((rdOf ByteArray.empty B3 B1).size : Int) > 16
         ·rw [if_pos Eb] at H
          have Eh : decide (16 < ((rdOf ByteArray.empty B3 B1).size : Int)) = true := decide_eq_true Eb
          have Ei : decide (16 < (rdOf ByteArray.empty B3 B1).size) = true := decide_eq_true (by omega)
          clear Eb
          obtain rfl := Option.some.inj H
          have Gg := B6.out
          have Gh := B7.out
          have Gi := cells_11 B5.out
          have Gj := frozen_11 B5.out
          have Ew : wr.cell? ⟨B4, 0, none⟩ = some (.int .i64 Bh) := (blk_cell B0.out 0).trans rfl
          have Ex : wr.cell? ⟨B4, 1, none⟩ = some (.string Bi) := (blk_cell B0.out 1).trans rfl
          have Ey : wr.cell? ⟨B4, 2, none⟩ = some (.slice Bm B3.length Bn) := (blk_cell B0.out 2).trans rfl
          have Ez : wr.cell? ⟨B4, 3, none⟩ = some (.slice Bo B9.length Bp) := (blk_cell B0.out 3).trans rfl
          have F0 := blk_frozen B0.out 0
          have F1 := blk_frozen B0.out 1
          have F2 := blk_frozen B0.out 2
          have F3 := blk_frozen B0.out 3
          have Ba : 0 ≤ (B1 : Int) := of_decide_eq_true (by first | (with_reducible assumption) | assumption)
          have Bb : B1 < (B3.length : Int) := of_decide_eq_true (by first | (with_reducible assumption) | assumption)
          obtain ⟨Bq, Bt, B2⟩ := Kd.at_string Bl.out B1 Ba Bb
          cases Bt
          replace B2 := (HB.out.cell (World.block_lt_of_cell? w _ B2)).trans B2
          replace Ba := eq_true Ba
          replace Bb := eq_true Bb
          go_wp2
          go_ret
          exact ⟨by first | rfl | (simp [*] <;> rfl), by repeat (first | (with_reducible first | exact HB.out | apply ba_ | apply bn_ | apply bd_ | refine bs_ ?_ Bf.out | refine bs_ ?_ Bg.out) | exact HB.out)⟩
         ·rw [if_neg Eb] at H
          have Eh : decide (16 < ((rdOf ByteArray.empty B3 B1).size : Int)) = false := decide_eq_false Eb
          have Ei : decide (16 < (rdOf ByteArray.empty B3 B1).size) = false := decide_eq_false (by omega)
          clear Eb
          obtain ⟨G6, F4, H⟩ := bes_ H
          try dsimp only at H
          by_cases F5 : G6 = true
          ·subst F5
           rw [if_pos rfl] at H
           by_cases Ds : (rdOf ByteArray.empty B3 B1).toList = ([] : List UInt8)
           ·rw [if_pos Ds] at H
            have Ej : ((rdOf ByteArray.empty B3 B1).toList == ([] : List UInt8)) = true := beq_iff_eq.mpr Ds
            have Ek : ((rdOf ByteArray.empty B3 B1).toList != ([] : List UInt8)) = false := bne_eq_false_iff_eq.mpr Ds
            (try (have El : (rdOf ByteArray.empty B3 B1).toList.isEmpty = true := by simpa using Ds))
            (try (have Em : (!(rdOf ByteArray.empty B3 B1).toList.isEmpty) = false := by simpa using Ds))
            clear Ds
            by_cases F6 : B1 < (B9.length : Int)
            ·rw [if_pos F6] at H
             have Gk : decide (B1 < (B9.length : Int)) = true := decide_eq_true F6
             clear F6
             by_cases Ec : ((rd_L3 B9 B1).length : Int) > 0
             ·rw [if_pos Ec] at H
              have En : decide (0 < ((rd_L3 B9 B1).length : Int)) = true := decide_eq_true Ec
              have Eo : decide (0 < (rd_L3 B9 B1).length) = true := decide_eq_true (by omega)
              clear Ec
              obtain rfl := Option.some.inj H
              have Gl := B6.out
              have Gm := B7.out
              have Gp := cells_11 B5.out
              have Gq := frozen_11 B5.out
              have F7 : wr.cell? ⟨B4, 0, none⟩ = some (.int .i64 Bh) := (blk_cell B0.out 0).trans rfl
              have F8 : wr.cell? ⟨B4, 1, none⟩ = some (.string Bi) := (blk_cell B0.out 1).trans rfl
              have F9 : wr.cell? ⟨B4, 2, none⟩ = some (.slice Bm B3.length Bn) := (blk_cell B0.out 2).trans rfl
              have Fa : wr.cell? ⟨B4, 3, none⟩ = some (.slice Bo B9.length Bp) := (blk_cell B0.out 3).trans rfl
              have Fb := blk_frozen B0.out 0
              have Fc := blk_frozen B0.out 1
              have Fd := blk_frozen B0.out 2
              have Fe := blk_frozen B0.out 3
              have Ba : 0 ≤ (B1 : Int) := of_decide_eq_true (by first | (with_reducible assumption) | assumption)
              have Bb : B1 < (B3.length : Int) := of_decide_eq_true (by first | (with_reducible assumption) | assumption)
              obtain ⟨Bq, Bt, B2⟩ := Kd.at_string Bl.out B1 Ba Bb
              cases Bt
              replace B2 := (HB.out.cell (World.block_lt_of_cell? w _ B2)).trans B2
              replace Ba := eq_true Ba
              replace Bb := eq_true Bb
              go_wp2_with (first | (go_at_call 28; (with_reducible refine (r14_In.calls k2 _ _ l1 B1 _ _ (Kd.C_below Eq.out HB.out) Er.out F4.out).mono ?_); rintro e w' ⟨rfl, ⟨nd, rfl⟩⟩; have Br : 0 ≤ (B1 : Int) := of_decide_eq_true (by first | (with_reducible assumption) | assumption); have Bs : B1 < (B3.length : Int) := of_decide_eq_true (by first | (with_reducible assumption) | assumption); obtain ⟨Bw, Dt, B8⟩ := Kd.at_string Bl.out B1 Br Bs; obtain rfl : Bq = Bw := (by injection Dt); replace B8 := (HB.out.cell (World.block_lt_of_cell? w _ B8)).trans B8; replace Br := eq_true Br; replace Bs := eq_true Bs; have D7 : 0 ≤ (B1 : Int) := of_decide_eq_true (by first | (with_reducible assumption) | assumption); have D8 : B1 < (B9.length : Int) := of_decide_eq_true (by first | (with_reducible assumption) | assumption); obtain ⟨Ep, E7, E8, E9, Bc, Bj, Bk⟩ := at_L3 E0.out B1 D7 D8; cases E9; replace Bc := (HB.out.cell (World.block_lt_of_cell? w _ Bc)).trans Bc; have Du := am_ Bk; have Dv := am_ Bj; clear Bk Bj; replace D7 := eq_true D7; replace D8 := eq_true D8))
              go_ret
              exact ⟨by first | rfl | (simp [*] <;> rfl), by repeat (first | (with_reducible first | exact HB.out | apply ba_ | apply bn_ | apply bd_ | refine bs_ ?_ Bf.out | refine bs_ ?_ Bg.out) | exact HB.out)⟩
             ·rw [if_neg Ec] at H
              have En : decide (0 < ((rd_L3 B9 B1).length : Int)) = false := decide_eq_false Ec
              have Eo : decide (0 < (rd_L3 B9 B1).length) = false := decide_eq_false (by omega)
              clear Ec
              have H' := am_ H
              clear H
              have Gr := B6.out
              have Gs := B7.out
              have Gt := cells_11 B5.out
              have Gu := frozen_11 B5.out
              have Ff : wr.cell? ⟨B4, 0, none⟩ = some (.int .i64 Bh) := (blk_cell B0.out 0).trans rfl
              have Fg : wr.cell? ⟨B4, 1, none⟩ = some (.string Bi) := (blk_cell B0.out 1).trans rfl
              have Fh : wr.cell? ⟨B4, 2, none⟩ = some (.slice Bm B3.length Bn) := (blk_cell B0.out 2).trans rfl
              have Fi : wr.cell? ⟨B4, 3, none⟩ = some (.slice Bo B9.length Bp) := (blk_cell B0.out 3).trans rfl
              have Fj := blk_frozen B0.out 0
              have Fk := blk_frozen B0.out 1
              have Fl := blk_frozen B0.out 2
              have Fm := blk_frozen B0.out 3
              have Ba : 0 ≤ (B1 : Int) := of_decide_eq_true (by first | (with_reducible assumption) | assumption)
              have Bb : B1 < (B3.length : Int) := of_decide_eq_true (by first | (with_reducible assumption) | assumption)
              obtain ⟨Bq, Bt, B2⟩ := Kd.at_string Bl.out B1 Ba Bb
              cases Bt
              replace B2 := (HB.out.cell (World.block_lt_of_cell? w _ B2)).trans B2
              replace Ba := eq_true Ba
              replace Bb := eq_true Bb
              go_wp2_with (first | (go_at_call 28; (with_reducible refine (r14_In.calls k2 _ _ l1 B1 _ _ (Kd.C_below Eq.out HB.out) Er.out F4.out).mono ?_); rintro e w' ⟨rfl, ⟨nd, rfl⟩⟩; have Br : 0 ≤ (B1 : Int) := of_decide_eq_true (by first | (with_reducible assumption) | assumption); have Bs : B1 < (B3.length : Int) := of_decide_eq_true (by first | (with_reducible assumption) | assumption); obtain ⟨Bw, Dt, B8⟩ := Kd.at_string Bl.out B1 Br Bs; obtain rfl : Bq = Bw := (by injection Dt); replace B8 := (HB.out.cell (World.block_lt_of_cell? w _ B8)).trans B8; replace Br := eq_true Br; replace Bs := eq_true Bs; have D7 : 0 ≤ (B1 : Int) := of_decide_eq_true (by first | (with_reducible assumption) | assumption); have D8 : B1 < (B9.length : Int) := of_decide_eq_true (by first | (with_reducible assumption) | assumption); obtain ⟨Ep, E7, E8, E9, Bc, Bj, Bk⟩ := at_L3 E0.out B1 D7 D8; cases E9; replace Bc := (HB.out.cell (World.block_lt_of_cell? w _ Bc)).trans Bc; have Du := am_ Bk; have Dv := am_ Bj; clear Bk Bj; replace D7 := eq_true D7; replace D8 := eq_true D8))
              go_roundg k2
              case measure => have := Es.out; have := Et.out; omega
              case rel => exact ⟨(wrap64 (B1 + 1)), (by first | rfl | (simp; done) | (simp [*]; done)), H', ⟨by have := Es.out; have := Et.out; omega⟩, ⟨by (with_reducible repeat (first | apply kn_ | apply kd_ | apply ka_)); exact B5.out⟩, ⟨by (with_reducible repeat (first | apply kn_ | apply kd_ | apply ka_)); exact B0.out⟩, ⟨by repeat (first | (with_reducible first | exact HB.out | apply ba_ | apply bn_ | apply bd_ | refine bs_ ?_ Bf.out | refine bs_ ?_ Bg.out) | exact HB.out)⟩⟩
            ·rw [if_neg F6] at H
             exact absurd H (by simp)
           ·rw [if_neg Ds] at H
            have Ej : ((rdOf ByteArray.empty B3 B1).toList == ([] : List UInt8)) = false := beq_eq_false_iff_ne.mpr Ds
            have Ek : ((rdOf ByteArray.empty B3 B1).toList != ([] : List UInt8)) = true := bne_iff_ne.mpr Ds
            (try (have El : (rdOf ByteArray.empty B3 B1).toList.isEmpty = false := by simpa using Ds))
            (try (have Em : (!(rdOf ByteArray.empty B3 B1).toList.isEmpty) = true := by simpa using Ds))
            obtain rfl := Option.some.inj H
            have Gv := B6.out
            have Gw := B7.out
            have Gx := cells_11 B5.out
            have Gy := frozen_11 B5.out
            have Fn : wr.cell? ⟨B4, 0, none⟩ = some (.int .i64 Bh) := (blk_cell B0.out 0).trans rfl
            have Fo : wr.cell? ⟨B4, 1, none⟩ = some (.string Bi) := (blk_cell B0.out 1).trans rfl
            have Fp : wr.cell? ⟨B4, 2, none⟩ = some (.slice Bm B3.length Bn) := (blk_cell B0.out 2).trans rfl
            have Fq : wr.cell? ⟨B4, 3, none⟩ = some (.slice Bo B9.length Bp) := (blk_cell B0.out 3).trans rfl
            have Fr := blk_frozen B0.out 0
            have Fs := blk_frozen B0.out 1
            have Ft := blk_frozen B0.out 2
            have Fu := blk_frozen B0.out 3
            have Ba : 0 ≤ (B1 : Int) := of_decide_eq_true (by first | (with_reducible assumption) | assumption)
            have Bb : B1 < (B3.length : Int) := of_decide_eq_true (by first | (with_reducible assumption) | assumption)
            obtain ⟨Bq, Bt, B2⟩ := Kd.at_string Bl.out B1 Ba Bb
            cases Bt
            replace B2 := (HB.out.cell (World.block_lt_of_cell? w _ B2)).trans B2
            replace Ba := eq_true Ba
            replace Bb := eq_true Bb
            go_wp2_with (first | (go_at_call 28; (with_reducible refine (r14_In.calls k2 _ _ l1 B1 _ _ (Kd.C_below Eq.out HB.out) Er.out F4.out).mono ?_); rintro e w' ⟨rfl, ⟨nd, rfl⟩⟩; have Br : 0 ≤ (B1 : Int) := of_decide_eq_true (by first | (with_reducible assumption) | assumption); have Bs : B1 < (B3.length : Int) := of_decide_eq_true (by first | (with_reducible assumption) | assumption); obtain ⟨Bw, Dt, B8⟩ := Kd.at_string Bl.out B1 Br Bs; obtain rfl : Bq = Bw := (by injection Dt); replace B8 := (HB.out.cell (World.block_lt_of_cell? w _ B8)).trans B8; replace Br := eq_true Br; replace Bs := eq_true Bs))
            go_ret
            exact ⟨by first | rfl | (simp [*] <;> rfl), by repeat (first | (with_reducible first | exact HB.out | apply ba_ | apply bn_ | apply bd_ | refine bs_ ?_ Bf.out | refine bs_ ?_ Bg.out) | exact HB.out)⟩
          ·replace F5 := Bool.eq_false_iff.mpr F5
           subst F5
           rw [if_neg (show ¬ (false = true) by decide)] at H
           have H' := am_ H
           clear H
           have Gz := B6.out
           have J0 := B7.out
           have J1 := cells_11 B5.out
           have J2 := frozen_11 B5.out
           have Fv : wr.cell? ⟨B4, 0, none⟩ = some (.int .i64 Bh) := (blk_cell B0.out 0).trans rfl
           have Fw : wr.cell? ⟨B4, 1, none⟩ = some (.string Bi) := (blk_cell B0.out 1).trans rfl
           have Fx : wr.cell? ⟨B4, 2, none⟩ = some (.slice Bm B3.length Bn) := (blk_cell B0.out 2).trans rfl
           have Fy : wr.cell? ⟨B4, 3, none⟩ = some (.slice Bo B9.length Bp) := (blk_cell B0.out 3).trans rfl
           have Fz := blk_frozen B0.out 0
           have G0 := blk_frozen B0.out 1
           have G1 := blk_frozen B0.out 2
           have G2 := blk_frozen B0.out 3
           have Ba : 0 ≤ (B1 : Int) := of_decide_eq_true (by first | (with_reducible assumption) | assumption)
           have Bb : B1 < (B3.length : Int) := of_decide_eq_true (by first | (with_reducible assumption) | assumption)
           obtain ⟨Bq, Bt, B2⟩ := Kd.at_string Bl.out B1 Ba Bb
           cases Bt
           replace B2 := (HB.out.cell (World.block_lt_of_cell? w _ B2)).trans B2
           replace Ba := eq_true Ba
           replace Bb := eq_true Bb
           go_wp2_with (first | (go_at_call 28; (with_reducible refine (r14_In.calls k2 _ _ l1 B1 _ _ (Kd.C_below Eq.out HB.out) Er.out F4.out).mono ?_); rintro e w' ⟨rfl, ⟨nd, rfl⟩⟩))
           go_roundg k2
           case measure => have := Es.out; have := Et.out; omega
           case rel => exact ⟨(wrap64 (B1 + 1)), (by first | rfl | (simp; done) | (simp [*]; done)), H', ⟨by have := Es.out; have := Et.out; omega⟩, ⟨by (with_reducible repeat (first | apply kn_ | apply kd_ | apply ka_)); exact B5.out⟩, ⟨by (with_reducible repeat (first | apply kn_ | apply kd_ | apply ka_)); exact B0.out⟩, ⟨by repeat (first | (with_reducible first | exact HB.out | apply ba_ | apply bn_ | apply bd_ | refine bs_ ?_ Bf.out | refine bs_ ?_ Bg.out) | exact HB.out)⟩⟩
        ·rw [if_neg Ev] at H
         exact absurd H (by simp)
       ·rw [if_neg Eu] at H
        exact absurd H (by simp)
      ·rw [if_neg Ea] at H
       have Eg : decide (B1 < Bd) = false := decide_eq_false Ea
       clear Ea
       obtain rfl := Option.some.inj H
       have J3 := B6.out
       have J4 := B7.out
       have J5 := cells_11 B5.out
       have J6 := frozen_11 B5.out
       go_wp2
       go_ret
       exact ⟨by first | rfl | (simp [*] <;> rfl), by repeat (first | (with_reducible first | exact HB.out | apply ba_ | apply bn_ | apply bd_ | refine bs_ ?_ Bf.out | refine bs_ ?_ Bg.out) | exact HB.out)⟩
end Go.Proofs.Ytdnccjlfongdeaa.Gn
