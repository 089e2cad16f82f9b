import Derived.Test.YtdnccjlfongdeaaZRoundFitsGn0
import Derived.Test.YtdnccjlfongdeaaZRoundFitsGn2
import Derived.Test.YtdnccjlfongdeaaZRoundFitsGn26
namespace Go.Proofs.Ytdnccjlfongdeaa.Gn
open Go.RowKit Go.Proofs.YtdnccjlfongdeaaW.PrintWords Go.Proofs.YtdnccjlfongdeaaW.PrintLast Go.Proofs.YtdnccjlfongdeaaW.PrintMore
attribute [local go_sem] max2_int min2_int max_two min_two max_three min_three max_four min_four   -- for this text's walks alone
set_option linter.unusedVariables false
set_option linter.unusedSimpArgs false
def r38_members.l0 : Nat → List Int → ByteArray → Int → Int → Int → Int → Int → Int → Int → Int → Int → Int → Int → List Int → Option (Bool)
 | 0, _, _, _, _, _, _, _, _, _, _, _, _, _, _ => none
 | k + 1, x1, x2, x7, B0, B1, B2, B3, B4, B5, B6, B7, B8, B9, Ba => if x7 < B0 then (if 0 ≤ x7 then (if x7 < (x2.size : Int) then (if (bt x2 x7) = 48 then ((r14_In.f k x1 x7).bind fun Bb => (if Bb = true then (r38_members.l0 k x1 x2 (wrap64 (x7 + 1)) B0 B1 B2 B3 B4 B5 B6 B7 B8 B9 Ba) else (some false))) else (if (bt x2 x7) = 49 then (r38_members.l0 k x1 x2 (wrap64 (x7 + 1)) B0 B1 B2 B3 B4 B5 B6 B7 B8 B9 Ba) else (some false))) else (none)) else (none)) else (some true)
def r38_members.f (k : Nat) (B0 B2 B3 B4 B5 B6 B7 B8 B9 Ba : Int) (B1 l1 : List Int) (a2 : ByteArray) : Option (Bool) := if (a2.size : Int) = B0 then (r38_members.l0 k l1 a2 0 B0 B2 B3 B4 B5 B6 B7 B8 B9 Ba B1) else (some false)
set_option maxHeartbeats 8000000 in
set_option maxRecDepth 100000 in
theorem r38_members.calls (k : Nat) (B2 B7 B8 B9 Ba Bb Bc Bd Be Bf : Int) (B5 : Option Addr) (B6 : Nat) (B3 : List Int) (A1 : Option Addr) (c1 : Nat) (l1 : List Int) (a2 : ByteArray) (r : Bool) (w : World) (Bg : Kd.C (Kd.int .i64) w B5 B3.length B3) (Bh : B3.length ≤ B6) (D6 : Kd.C (Kd.int .i64) w A1 l1.length l1) (D7 : l1.length ≤ c1) (h : r38_members.f k B2 B7 B8 B9 Ba Bb Bc Bd Be Bf B3 l1 a2 = some r) :
  Calls Try.prog 38 #[.agg #[.int .i64 B2, .int .i64 B7, .int .i64 B8, .int .i64 B9, .int .i64 Ba, .int .i64 Bb, .int .i64 Bc, .int .i64 Bd, .int .i64 Be, .int .i64 Bf, .slice B5 B3.length B6], .slice A1 l1.length c1, .string a2] w fun e w' => e = .returned (.bool r) ∧ Below w.heap.size w w' := by
 have Dp := Try.underlying24
 have Bz := am_ Bg
 have D0 := am_ Bh
 clear Bg Bh
 have D8 := am_ D6
 have D9 := am_ D7
 clear D6 D7
 have HB := am_ (Below.refl w.heap.size w)
 have H := h
 unfold r38_members.f at H
 clear h
 by_cases c4 : (a2.size : Int) = B2
 ·rw [if_pos c4] at H
  have Bo : ((a2.size : Int) == B2) = true := beq_iff_eq.mpr c4
  have Bp : ((a2.size : Int) != B2) = false := bne_eq_false_iff_eq.mpr c4
  clear c4
  have H' := am_ H
  clear H
  go_enter Try.func38, Try.ntmps38
  go_wp2_with (first | ((with_reducible refine gate_dst (N := 3) rfl ?_); refine bxe_ 3 24 #[.int .i64 B2, .int .i64 B7, .int .i64 B8, .int .i64 B9, .int .i64 Ba, .int .i64 Bb, .int .i64 Bc, .int .i64 Bd, .int .i64 Be, .int .i64 Bf, .slice B5 B3.length B6] ?_; intro Bj hg w5 hbox hb; have B1 := am_ (hbox); have Bi := gwk_ HB hg; have B4 := Bi; replace HB := bst_ HB hb; clear hb hbox hg; have D1 := cells_11 B1.out; have D2 := frozen_11 B1.out))
  go_loopg [7] k (fun kq v7 w' => ∃ (B0 : Int), v7 = .int .i64 B0 ∧ Aside0 (r38_members.l0 kq l1 a2 B0 B2 B7 B8 B9 Ba Bb Bc Bd Be Bf B3 = some r) ∧ Aside0 (kq ≤ k) ∧ Aside0 (w'.heap[Bj]? = some (.cells #[.int .i64 B2, .int .i64 B7, .int .i64 B8, .int .i64 B9, .int .i64 Ba, .int .i64 Bb, .int .i64 Bc, .int .i64 Bd, .int .i64 Be, .int .i64 Bf, (.slice B5 B3.length B6)] 24 (0, 0))) ∧ Aside0 (Below w.heap.size w w'))
  case atStart => exact ⟨(0), (by first | rfl | (simp; done) | (simp [*]; done)), H', ⟨Nat.le_refl _⟩, ⟨by (with_reducible repeat (first | apply kn_ | apply kd_ | apply ka_)); exact B1.out⟩, ⟨by repeat (first | (with_reducible first | exact HB.out | apply ba_ | apply bn_ | apply bd_ | refine bs_ ?_ B4.out) | exact HB.out)⟩⟩
  case round =>
   clear H'
   try clear c1
   try clear p2
   try clear c3
   try clear c4
   try clear Bo
   try clear Bp
   try clear D1
   try clear D2
   obtain ⟨B0, rfl, HA, Bx, B1, HB⟩ := hrel
   cases gk with
   | zero => exact absurd HA.out (by simp [r38_members.l0])
   | succ k1 =>
    have H := HA.out
    clear HA
    simp only [r38_members.l0] at H
    by_cases c7 : B0 < B2
    ·rw [if_pos c7] at H
     have D3 : decide (B0 < B2) = true := decide_eq_true c7
     clear c7
     by_cases c8 : 0 ≤ B0
     ·rw [if_pos c8] at H
      have Dq : decide (0 ≤ B0) = true := decide_eq_true c8
      clear c8
      by_cases c9 : B0 < (a2.size : Int)
      ·rw [if_pos c9] at H
       have Dr : decide (B0 < (a2.size : Int)) = true := decide_eq_true c9
       clear c9
       by_cases Bm : (bt a2 B0) = 48
       rw [if_pos Bm] at H
       have Bq : ((bt a2 B0) == 48) = true := beq_iff_eq.mpr Bm
       have Br : ((bt a2 B0) != 48) = false := bne_eq_false_iff_eq.mpr Bm
       clear Bm
       obtain ⟨D4, Da, H⟩ := bes_ H
       try dsimp only at H
       by_cases By : D4 = true
       ·subst By
        rw [if_pos rfl] at H
        have H' := am_ H
        clear H
        have Db := cells_11 B1.out
        have Dc := frozen_11 B1.out
        have Bk : 0 ≤ (B0 : Int) := of_decide_eq_true (by first | (with_reducible assumption) | assumption)
        have Bl : B0 < (a2.size : Int) := of_decide_eq_true (by first | (with_reducible assumption) | assumption)
        have Bs := bt_at a2 B0
        replace Bk := eq_true Bk
        replace Bl := eq_true Bl
        have Bt : 0 ≤ (B0 : Int) := of_decide_eq_true (by first | (with_reducible assumption) | assumption)
        have Bu : B0 < (a2.size : Int) := of_decide_eq_true (by first | (with_reducible assumption) | assumption)
        have D5 := bt_at a2 B0
        replace Bt := eq_true Bt
        replace Bu := eq_true Bu
        go_wp2_with (first | (go_at_call 28; (with_reducible refine (r14_In.calls k1 _ _ l1 B0 _ _ (Kd.C_below D8.out HB.out) D9.out Da.out).mono ?_); rintro e w' ⟨rfl, ⟨nd, rfl⟩⟩))
        go_roundg k1
        case measure => have := Bx.out; omega
        case rel => exact ⟨(wrap64 (B0 + 1)), (by first | rfl | (simp; done) | (simp [*]; done)), H', ⟨by have := Bx.out; omega⟩, ⟨by (with_reducible repeat (first | apply kn_ | apply kd_ | apply ka_)); exact B1.out⟩, ⟨by repeat (first | (with_reducible first | exact HB.out | apply ba_ | apply bn_ | apply bd_ | refine bs_ ?_ B4.out) | exact HB.out)⟩⟩
       replace By := Bool.eq_false_iff.mpr By
       subst By
       rw [if_neg (show ¬ (false = true) by decide)] at H
       obtain rfl := Option.some.inj H
       rotate_left
       rw [if_neg Bm] at H
       have Bq : ((bt a2 B0) == 48) = false := beq_eq_false_iff_ne.mpr Bm
       have Br : ((bt a2 B0) != 48) = true := bne_iff_ne.mpr Bm
       by_cases Bn : (bt a2 B0) = 49
       ·rw [if_pos Bn] at H
        have Bv : ((bt a2 B0) == 49) = true := beq_iff_eq.mpr Bn
        have Bw : ((bt a2 B0) != 49) = false := bne_eq_false_iff_eq.mpr Bn
        clear Bn
        have H' := am_ H
        clear H
        have Dd := cells_11 B1.out
        have De := frozen_11 B1.out
        have Bk : 0 ≤ (B0 : Int) := of_decide_eq_true (by first | (with_reducible assumption) | assumption)
        have Bl : B0 < (a2.size : Int) := of_decide_eq_true (by first | (with_reducible assumption) | assumption)
        have Bs := bt_at a2 B0
        replace Bk := eq_true Bk
        replace Bl := eq_true Bl
        have Df : 0 ≤ (B0 : Int) := of_decide_eq_true (by first | (with_reducible assumption) | assumption)
        have Dg : B0 < (a2.size : Int) := of_decide_eq_true (by first | (with_reducible assumption) | assumption)
        have Ds := bt_at a2 B0
        replace Df := eq_true Df
        replace Dg := eq_true Dg
        have Dh : 0 ≤ (B0 : Int) := of_decide_eq_true (by first | (with_reducible assumption) | assumption)
        have Di : B0 < (a2.size : Int) := of_decide_eq_true (by first | (with_reducible assumption) | assumption)
        have Dt := bt_at a2 B0
        replace Dh := eq_true Dh
        replace Di := eq_true Di
        go_wp2
        go_roundg k1
        case measure => have := Bx.out; omega
        case rel => exact ⟨(wrap64 (B0 + 1)), (by first | rfl | (simp; done) | (simp [*]; done)), H', ⟨by have := Bx.out; omega⟩, ⟨by (with_reducible repeat (first | apply kn_ | apply kd_ | apply ka_)); exact B1.out⟩, ⟨by repeat (first | (with_reducible first | exact HB.out | apply ba_ | apply bn_ | apply bd_ | refine bs_ ?_ B4.out) | exact HB.out)⟩⟩
       rw [if_neg Bn] at H
       have Bv : ((bt a2 B0) == 49) = false := beq_eq_false_iff_ne.mpr Bn
       have Bw : ((bt a2 B0) != 49) = true := bne_iff_ne.mpr Bn
       obtain rfl := Option.some.inj H
       rotate_left
       all_goals
        have Dj := cells_11 B1.out
        have Dk := frozen_11 B1.out
        have Bk : 0 ≤ (B0 : Int) := of_decide_eq_true (by first | (with_reducible assumption) | assumption)
        have Bl : B0 < (a2.size : Int) := of_decide_eq_true (by first | (with_reducible assumption) | assumption)
        have Bs := bt_at a2 B0
        replace Bk := eq_true Bk
        replace Bl := eq_true Bl
        have Bt : 0 ≤ (B0 : Int) := of_decide_eq_true (by first | (with_reducible assumption) | assumption)
        have Bu : B0 < (a2.size : Int) := of_decide_eq_true (by first | (with_reducible assumption) | assumption)
        have D5 := bt_at a2 B0
        replace Bt := eq_true Bt
        replace Bu := eq_true Bu
       ·go_wp2_with (first | (go_at_call 28; (with_reducible refine (r14_In.calls k1 _ _ l1 B0 _ _ (Kd.C_below D8.out HB.out) D9.out Da.out).mono ?_); rintro e w' ⟨rfl, ⟨nd, rfl⟩⟩))
        go_ret
        exact ⟨by first | rfl | (simp [*] <;> rfl), by repeat (first | (with_reducible first | exact HB.out | apply ba_ | apply bn_ | apply bd_ | refine bs_ ?_ B4.out) | exact HB.out)⟩
       ·go_wp2
        go_ret
        exact ⟨by first | rfl | (simp [*] <;> rfl), by repeat (first | (with_reducible first | exact HB.out | apply ba_ | apply bn_ | apply bd_ | refine bs_ ?_ B4.out) | exact HB.out)⟩
      ·rw [if_neg c9] at H
       exact absurd H (by simp)
     ·rw [if_neg c8] at H
      exact absurd H (by simp)
    ·rw [if_neg c7] at H
     have D3 : decide (B0 < B2) = false := decide_eq_false c7
     clear c7
     obtain rfl := Option.some.inj H
     have Dl := cells_11 B1.out
     have Dm := frozen_11 B1.out
     go_wp2
     go_ret
     exact ⟨by first | rfl | (simp [*] <;> rfl), by repeat (first | (with_reducible first | exact HB.out | apply ba_ | apply bn_ | apply bd_ | refine bs_ ?_ B4.out) | exact HB.out)⟩
 ·rw [if_neg c4] at H
  have Bo : ((a2.size : Int) == B2) = false := beq_eq_false_iff_ne.mpr c4
  have Bp : ((a2.size : Int) != B2) = true := bne_iff_ne.mpr c4
  obtain rfl := Option.some.inj H
  go_enter Try.func38, Try.ntmps38
  go_wp2_with (first | ((with_reducible refine gate_dst (N := 3) rfl ?_); refine bxe_ 3 24 #[.int .i64 B2, .int .i64 B7, .int .i64 B8, .int .i64 B9, .int .i64 Ba, .int .i64 Bb, .int .i64 Bc, .int .i64 Bd, .int .i64 Be, .int .i64 Bf, .slice B5 B3.length B6] ?_; intro Bj hg w23 hbox hb; have B1 := am_ (hbox); have Bi := gwk_ HB hg; have B4 := Bi; replace HB := bst_ HB hb; clear hb hbox hg; have Dn := cells_11 B1.out; have Do := frozen_11 B1.out))
  go_ret
  exact ⟨by first | rfl | (simp [*] <;> rfl), by repeat (first | (with_reducible first | exact HB.out | apply ba_ | apply bn_ | apply bd_ | refine bs_ ?_ B4.out) | exact HB.out)⟩
end Go.Proofs.Ytdnccjlfongdeaa.Gn
