import Derived.Test.YtdnccjlfongdeaaZRoundOnlyGn2
import Derived.Test.YtdnccjlfongdeaaZRoundOnlyGn0
import Derived.Test.YtdnccjlfongdeaaZRoundOnlyGn1
namespace Go.Proofs.Ytdnccjlfongdeaa.Gn
open Go.RowKit Go.Proofs.YtdnccjlfongdeaaW.PrintWords Go.Proofs.YtdnccjlfongdeaaW.PrintLast Go.Proofs.YtdnccjlfongdeaaW.PrintMore
attribute [local go_sem] max2_int min2_int max_two min_two max_three min_three max_four min_four   -- for this text's walks alone
set_option linter.unusedVariables false
set_option linter.unusedSimpArgs false
attribute [local go_sem high] eqA45
def r24_Same.l0 : Nat → List (S45) → List (S45) → Int → Option (Bool)
 | 0, _, _, _ => none
 | k + 1, x0, x1, x5 => if x5 < (x0.length : Int) then (if 0 ≤ x5 then (if x5 < (x1.length : Int) then (if (!(((rd_T45 x0 x5).f0) == ((rd_T45 x1 x5).f0)) || (!(((rd_T45 x0 x5).f1) == ((rd_T45 x1 x5).f1)) || (!(((rd_T45 x0 x5).f2) == ((rd_T45 x1 x5).f2)) || (!((((rd_T45 x0 x5).f3).toList) == (((rd_T45 x1 x5).f3).toList)))))) = true then (some false) else (r24_Same.l0 k x0 x1 (wrap64 (x5 + 1)))) else (none)) else (none)) else (some true)
def r24_Same.f (k : Nat) (l0 l1 : List (S45)) : Option (Bool) := if (l0.length : Int) = (l1.length : Int) then (r24_Same.l0 k l0 l1 0) else (some false)
theorem r24_Same.mono_l : ∀ k, (∀ y0 y1 y2, LeO (r24_Same.l0 k y0 y1 y2) (r24_Same.l0 (k + 1) y0 y1 y2))
 | 0 => fun _ _ _ r h => by simp [r24_Same.l0] at h
 | k + 1 => by
  have B0 := r24_Same.mono_l k
  ·intro y0 y1 y2
   unfold r24_Same.l0
   repeat' first
   | (with_reducible exact B0 _ _ _)
   | (with_reducible exact LeO.refl _)
   | (with_reducible exact LeO.none _)
   | (with_reducible refine LeO.ite ?_ ?_)
   | (with_reducible refine LeO.bind ?_ (fun _ => ?_))
   | exact B0 _ _ _
   | exact LeO.none _
   | refine LeO.ite ?_ ?_
   | refine LeO.bind ?_ (fun _ => ?_)
theorem r24_Same.mono : ∀ a0 a1 k, LeO (r24_Same.f k a0 a1) (r24_Same.f (k + 1) a0 a1) := by
 intro a0 a1 k
 have B0 := r24_Same.mono_l k
 unfold r24_Same.f
 repeat' first
   | (with_reducible exact B0 _ _ _)
   | (with_reducible exact LeO.refl _)
   | (with_reducible exact LeO.none _)
   | (with_reducible refine LeO.ite ?_ ?_)
   | (with_reducible refine LeO.bind ?_ (fun _ => ?_))
   | exact B0 _ _ _
   | exact LeO.none _
   | refine LeO.ite ?_ ?_
   | refine LeO.bind ?_ (fun _ => ?_)
set_option maxHeartbeats 8000000 in
set_option maxRecDepth 100000 in
theorem r24_Same.calls (k : Nat) (A0 : Option Addr) (c0 : Nat) (l0 : List (S45)) (A1 : Option Addr) (c1 : Nat) (l1 : List (S45)) (r : Bool) (w : World) (Bm : Kd.C k45 w A0 l0.length l0) (Bn : l0.length ≤ c0) (Bo : Kd.C k45 w A1 l1.length l1) (Bp : l1.length ≤ c1) (h : r24_Same.f k l0 l1 = some r) :
  Calls Try.prog 32 #[.slice A0 l0.length c0, .slice A1 l1.length c1] w fun e w' => e = .returned (.bool r) ∧ Drawn0 w w' := by
 have Bt := Try.underlying45
 have Bq := am_ Bm
 have Bw := am_ Bn
 clear Bm Bn
 have Br := am_ Bo
 have Bx := am_ Bp
 clear Bo Bp
 have H := h
 unfold r24_Same.f at H
 clear h
 by_cases c3 : (l0.length : Int) = (l1.length : Int)
 ·rw [if_pos c3] at H
  have Bf : ((l0.length : Int) == (l1.length : Int)) = true := beq_iff_eq.mpr c3
  have Bg : ((l0.length : Int) != (l1.length : Int)) = false := bne_eq_false_iff_eq.mpr c3
  have Bh : (l0.length == l1.length) = true := by first | simpa using c3 | (simp at c3 ⊢; omega)
  clear c3
  have H' := am_ H
  clear H
  go_enter Try.func32, Try.ntmps32
  go_wp2
  repeat (go_quiet (fail); try go_wp2)
  go_loopg [5] k (fun kq v5 w' => ∃ (B0 : Int), v5 = .int .i64 B0 ∧ Aside0 (r24_Same.l0 kq l0 l1 B0 = some r) ∧ Aside0 (kq ≤ k) ∧ Drawn0 w w')
  case atStart => exact ⟨(0), (by first | rfl | (simp; done) | (simp [*]; done)), H', ⟨Nat.le_refl _⟩, by repeat (first | exact Drawn0.refl _ | apply Drawn0.step)⟩
  case round =>
   clear H'
   try clear c1
   try clear p2
   try clear c3
   try clear Bf
   try clear Bg
   try clear Bh
   obtain ⟨B0, rfl, HA, Bs, ⟨m1, rfl⟩⟩ := hrel
   cases gk with
   | zero => exact absurd HA.out (by simp [r24_Same.l0])
   | succ k1 =>
    have H := HA.out
    clear HA
    simp only [r24_Same.l0] at H
    by_cases c4 : B0 < (l0.length : Int)
    ·rw [if_pos c4] at H
     have Bk : decide (B0 < (l0.length : Int)) = true := decide_eq_true c4
     clear c4
     by_cases c5 : 0 ≤ B0
     ·rw [if_pos c5] at H
      have Bu : decide (0 ≤ B0) = true := decide_eq_true c5
      clear c5
      by_cases c6 : B0 < (l1.length : Int)
      ·rw [if_pos c6] at H
       have Bv : decide (B0 < (l1.length : Int)) = true := decide_eq_true c6
       clear c6
       by_cases c7 : (!(((rd_T45 l0 B0).f0) == ((rd_T45 l1 B0).f0)) || (!(((rd_T45 l0 B0).f1) == ((rd_T45 l1 B0).f1)) || (!(((rd_T45 l0 B0).f2) == ((rd_T45 l1 B0).f2)) || (!((((rd_T45 l0 B0).f3).toList) == (((rd_T45 l1 B0).f3).toList)))))) = true
       ·rw [if_pos c7] at H
        have Bl : (!(((rd_T45 l0 B0).f0) == ((rd_T45 l1 B0).f0)) || (!(((rd_T45 l0 B0).f1) == ((rd_T45 l1 B0).f1)) || (!(((rd_T45 l0 B0).f2) == ((rd_T45 l1 B0).f2)) || (!((((rd_T45 l0 B0).f3).toList) == (((rd_T45 l1 B0).f3).toList)))))) = true := c7
        clear c7
        obtain rfl := Option.some.inj H
        have B1 : 0 ≤ (B0 : Int) := of_decide_eq_true (by first | (with_reducible assumption) | assumption)
        have B2 : B0 < (l0.length : Int) := of_decide_eq_true (by first | (with_reducible assumption) | assumption)
        obtain ⟨Bi, Bd, B5, B6, B7, B8⟩ := at_T45 Bq.out B0 B1 B2
        cases Bd
        replace B1 := eq_true B1
        replace B2 := eq_true B2
        have B3 : 0 ≤ (B0 : Int) := of_decide_eq_true (by first | (with_reducible assumption) | assumption)
        have B4 : B0 < (l1.length : Int) := of_decide_eq_true (by first | (with_reducible assumption) | assumption)
        obtain ⟨Bj, Be, B9, Ba, Bb, Bc⟩ := at_T45 Br.out B0 B3 B4
        cases Be
        replace B3 := eq_true B3
        replace B4 := eq_true B4
        go_wp2
        repeat (go_quiet (fail); try go_wp2)
        go_ret
        exact ⟨by first | rfl | (simp; done) | (simp [*]; done), by repeat (first | exact Drawn0.refl _ | apply Drawn0.step)⟩
       ·rw [if_neg c7] at H
        have Bl : (!(((rd_T45 l0 B0).f0) == ((rd_T45 l1 B0).f0)) || (!(((rd_T45 l0 B0).f1) == ((rd_T45 l1 B0).f1)) || (!(((rd_T45 l0 B0).f2) == ((rd_T45 l1 B0).f2)) || (!((((rd_T45 l0 B0).f3).toList) == (((rd_T45 l1 B0).f3).toList)))))) = false := by simpa using c7
        clear c7
        have H' := am_ H
        clear H
        have B1 : 0 ≤ (B0 : Int) := of_decide_eq_true (by first | (with_reducible assumption) | assumption)
        have B2 : B0 < (l0.length : Int) := of_decide_eq_true (by first | (with_reducible assumption) | assumption)
        obtain ⟨Bi, Bd, B5, B6, B7, B8⟩ := at_T45 Bq.out B0 B1 B2
        cases Bd
        replace B1 := eq_true B1
        replace B2 := eq_true B2
        have B3 : 0 ≤ (B0 : Int) := of_decide_eq_true (by first | (with_reducible assumption) | assumption)
        have B4 : B0 < (l1.length : Int) := of_decide_eq_true (by first | (with_reducible assumption) | assumption)
        obtain ⟨Bj, Be, B9, Ba, Bb, Bc⟩ := at_T45 Br.out B0 B3 B4
        cases Be
        replace B3 := eq_true B3
        replace B4 := eq_true B4
        go_wp2
        repeat (go_quiet (fail); try go_wp2)
        go_roundg k1
        case measure => have := Bs.out; omega
        case rel => exact ⟨(wrap64 (B0 + 1)), (by first | rfl | (simp; done) | (simp [*]; done)), H', ⟨by have := Bs.out; omega⟩, by repeat (first | exact Drawn0.refl _ | apply Drawn0.step)⟩
      ·rw [if_neg c6] at H
       exact absurd H (by simp)
     ·rw [if_neg c5] at H
      exact absurd H (by simp)
    ·rw [if_neg c4] at H
     have Bk : decide (B0 < (l0.length : Int)) = false := decide_eq_false c4
     clear c4
     obtain rfl := Option.some.inj H
     go_wp2
     repeat (go_quiet (fail); try go_wp2)
     go_ret
     exact ⟨by first | rfl | (simp; done) | (simp [*]; done), by repeat (first | exact Drawn0.refl _ | apply Drawn0.step)⟩
 ·rw [if_neg c3] at H
  have Bf : ((l0.length : Int) == (l1.length : Int)) = false := beq_eq_false_iff_ne.mpr c3
  have Bg : ((l0.length : Int) != (l1.length : Int)) = true := bne_iff_ne.mpr c3
  have Bh : (l0.length == l1.length) = false := by first | simpa using c3 | (simp at c3 ⊢; omega)
  obtain rfl := Option.some.inj H
  go_enter Try.func32, Try.ntmps32
  go_wp2
  repeat (go_quiet (fail); try go_wp2)
  go_ret
  exact ⟨by first | rfl | (simp; done) | (simp [*]; done), by repeat (first | exact Drawn0.refl _ | apply Drawn0.step)⟩
end Go.Proofs.Ytdnccjlfongdeaa.Gn
