import Derived.Test.YtdnccjlfongdeaaZRoundOnlyGn2
import Derived.Test.YtdnccjlfongdeaaZRoundOnlyGn0
namespace Go.Proofs.Ytdnccjlfongdeaa.Gn
open Go.RowKit Go.Proofs.YtdnccjlfongdeaaW.PrintWords Go.Proofs.YtdnccjlfongdeaaW.PrintLast Go.Proofs.YtdnccjlfongdeaaW.PrintMore
attribute [local go_sem] max2_int min2_int max_two min_two max_three min_three max_four min_four   -- for this text's walks alone
set_option linter.unusedVariables false
set_option linter.unusedSimpArgs false
mutual
def r38_Few.j0 : Nat → List (List (S45)) → Bool → Option (Bool)
 | 0, _, _ => none
 | k + 1, x1, B0 => if B0 = true then (some false) else (r38_Few.l0 k x1 0)
def r38_Few.l0 : Nat → List (List (S45)) → Int → Option (Bool)
 | 0, _, _ => none
 | k + 1, x1, x5 => if x5 < (x1.length : Int) then (if 0 ≤ x5 then (if ((rd_L3 x1 x5).length : Int) > 100 then (some false) else (r38_Few.l0 k x1 (wrap64 (x5 + 1)))) else (none)) else (some true)
end
def r38_Few.f (k : Nat) (l0 : List ByteArray) (l1 : List (List (S45))) : Option (Bool) := if (l0.length : Int) > 40 then (r38_Few.j0 k l1 true) else (r38_Few.j0 k l1 (decide ((l1.length : Int) > 40)))
set_option maxHeartbeats 8000000 in
set_option maxRecDepth 100000 in
theorem r38_Few.calls (k : Nat) (A0 : Option Addr) (c0 : Nat) (l0 : List ByteArray) (A1 : Option Addr) (c1 : Nat) (l1 : List (List (S45))) (r : Bool) (w : World) (Bj : Kd.C Kd.string w A0 l0.length l0) (Bk : l0.length ≤ c0) (Bl : Kd.C (Kd.slice 45 k45) w A1 l1.length l1) (Bm : l1.length ≤ c1) (h : r38_Few.f k l0 l1 = some r) :
  Calls Try.prog 7 #[.slice A0 l0.length c0, .slice A1 l1.length c1] w fun e w' => e = .returned (.bool r) ∧ Drawn0 w w' := by
 have Bs := am_ Bj
 have Bt := am_ Bk
 clear Bj Bk
 have Bn := am_ Bl
 have Bu := am_ Bm
 clear Bl Bm
 have H := h
 unfold r38_Few.f at H
 clear h
 have Bf := am_ H
 clear H
 go_enter Try.func7, Try.ntmps7
 go_upto_region 1 with (fail)
 go_cut [13] (fun v13 wc => ∃ (kq : Nat) (B6 : Bool), v13 = .bool B6 ∧ Aside0 (r38_Few.j0 kq l1 B6 = some r) ∧ Aside0 (kq ≤ k) ∧ Drawn0 w wc)
 case first =>
  have H := Bf.out
  clear Bf
  by_cases c4 : (l0.length : Int) > 40
  ·rw [if_pos c4] at H
   have B3 : decide (40 < (l0.length : Int)) = true := decide_eq_true c4
   have Ba : decide (40 < l0.length) = true := decide_eq_true (by omega)
   clear c4
   (first | rw [B3] | (simp only [i64_w, i32_w]; rw [B3]) | skip)
   have H' := am_ H
   clear H
   go_wp2
   go_meet
   case rel => exact ⟨_, (true), (by first | rfl | (simp; done) | (simp [*]; done)), H', ⟨by first | omega | exact Nat.le_refl _⟩, by repeat (first | exact Drawn0.refl _ | apply Drawn0.step)⟩
  ·rw [if_neg c4] at H
   have B3 : decide (40 < (l0.length : Int)) = false := decide_eq_false c4
   have Ba : decide (40 < l0.length) = false := decide_eq_false (by omega)
   clear c4
   (first | rw [B3] | (simp only [i64_w, i32_w]; rw [B3]) | skip)
   have H' := am_ H
   clear H
   go_wp2
   go_meet
   case rel => exact ⟨_, (decide ((l1.length : Int) > 40)), (by first | rfl | (simp; done) | (simp [*]; done)), H', ⟨by first | omega | exact Nat.le_refl _⟩, by repeat (first | exact Drawn0.refl _ | apply Drawn0.step)⟩
 case rest =>
  clear Bf
  try clear c1
  try clear p2
  try clear c4
  try clear B3
  try clear Ba
  obtain ⟨kq, B6, rfl, HA, Bo, ⟨Bv, rfl⟩⟩ := hcut
  cases kq with
  | zero => exact absurd HA.out (by simp [r38_Few.j0])
  | succ Bp =>
   have H := HA.out
   clear HA
   simp only [r38_Few.j0] at H
   by_cases c5 : B6 = true
   ·subst c5
    rw [if_pos rfl] at H
    obtain rfl := Option.some.inj H
    go_wp2
    go_ret
    exact ⟨by first | rfl | (simp; done) | (simp [*]; done), by repeat (first | exact Drawn0.refl _ | apply Drawn0.step)⟩
   ·replace c5 := Bool.eq_false_iff.mpr c5
    subst c5
    rw [if_neg (show ¬ (false = true) by decide)] at H
    have H' := am_ H
    clear H
    go_wp2
    go_loopg [5] Bp (fun kq v5 w' => ∃ (B0 : Int), v5 = .int .i64 B0 ∧ Aside0 (r38_Few.l0 kq l1 B0 = some r) ∧ Aside0 (kq ≤ Bp) ∧ Drawn0 w w')
    case atStart => exact ⟨(0), (by first | rfl | (simp; done) | (simp [*]; done)), H', ⟨Nat.le_refl _⟩, by repeat (first | exact Drawn0.refl _ | apply Drawn0.step)⟩
    case round =>
     clear H'
     try clear c1
     try clear c2
     try clear p2
     try clear c4
     try clear B3
     try clear Ba
     try clear c5
     try clear p2
     obtain ⟨B0, rfl, HA, Bq, ⟨m2, rfl⟩⟩ := hrel
     cases gk with
     | zero => exact absurd HA.out (by simp [r38_Few.l0])
     | succ k2 =>
      have H := HA.out
      clear HA
      simp only [r38_Few.l0] at H
      by_cases c6 : B0 < (l1.length : Int)
      ·rw [if_pos c6] at H
       have Bg : decide (B0 < (l1.length : Int)) = true := decide_eq_true c6
       clear c6
       by_cases c7 : 0 ≤ B0
       ·rw [if_pos c7] at H
        have Br : decide (0 ≤ B0) = true := decide_eq_true c7
        clear c7
        by_cases c8 : ((rd_L3 l1 B0).length : Int) > 100
        ·rw [if_pos c8] at H
         have Bh : decide (100 < ((rd_L3 l1 B0).length : Int)) = true := decide_eq_true c8
         have Bi : decide (100 < (rd_L3 l1 B0).length) = true := decide_eq_true (by omega)
         clear c8
         obtain rfl := Option.some.inj H
         have B4 : 0 ≤ (B0 : Int) := of_decide_eq_true (by first | (with_reducible assumption) | assumption)
         have B5 : B0 < (l1.length : Int) := of_decide_eq_true (by first | (with_reducible assumption) | assumption)
         obtain ⟨Be, Bb, Bc, Bd, B7, B1, B2⟩ := at_L3 Bn.out B0 B4 B5
         cases Bd
         have B8 := am_ B2
         have B9 := am_ B1
         clear B2 B1
         replace B4 := eq_true B4
         replace B5 := eq_true B5
         go_wp2
         go_ret
         exact ⟨by first | rfl | (simp; done) | (simp [*]; done), by repeat (first | exact Drawn0.refl _ | apply Drawn0.step)⟩
        ·rw [if_neg c8] at H
         have Bh : decide (100 < ((rd_L3 l1 B0).length : Int)) = false := decide_eq_false c8
         have Bi : decide (100 < (rd_L3 l1 B0).length) = false := decide_eq_false (by omega)
         clear c8
         have H' := am_ H
         clear H
         have B4 : 0 ≤ (B0 : Int) := of_decide_eq_true (by first | (with_reducible assumption) | assumption)
         have B5 : B0 < (l1.length : Int) := of_decide_eq_true (by first | (with_reducible assumption) | assumption)
         obtain ⟨Be, Bb, Bc, Bd, B7, B1, B2⟩ := at_L3 Bn.out B0 B4 B5
         cases Bd
         have B8 := am_ B2
         have B9 := am_ B1
         clear B2 B1
         replace B4 := eq_true B4
         replace B5 := eq_true B5
         go_wp2
         go_roundg k2
         case measure => have := Bo.out; have := Bq.out; omega
         case rel => exact ⟨(wrap64 (B0 + 1)), (by first | rfl | (simp; done) | (simp [*]; done)), H', ⟨by have := Bo.out; have := Bq.out; omega⟩, by repeat (first | exact Drawn0.refl _ | apply Drawn0.step)⟩
       ·rw [if_neg c7] at H
        exact absurd H (by simp)
      ·rw [if_neg c6] at H
       have Bg : decide (B0 < (l1.length : Int)) = false := decide_eq_false c6
       clear c6
       obtain rfl := Option.some.inj H
       go_wp2
       go_ret
       exact ⟨by first | rfl | (simp; done) | (simp [*]; done), by repeat (first | exact Drawn0.refl _ | apply Drawn0.step)⟩
end Go.Proofs.Ytdnccjlfongdeaa.Gn
