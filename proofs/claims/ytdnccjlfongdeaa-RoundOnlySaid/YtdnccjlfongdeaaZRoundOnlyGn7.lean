import Derived.Test.YtdnccjlfongdeaaZRoundOnlyGn2
import Derived.Test.YtdnccjlfongdeaaZRoundOnlyGn0
namespace Go.Proofs.Ytdnccjlfongdeaa.Gn
open Go.RowKit Go.Proofs.YtdnccjlfongdeaaW.PrintWords Go.Proofs.YtdnccjlfongdeaaW.PrintLast Go.Proofs.YtdnccjlfongdeaaW.PrintMore
attribute [local go_sem] max2_int min2_int max_two min_two max_three min_three max_four min_four   -- for this text's walks alone
set_option linter.unusedVariables false
set_option linter.unusedSimpArgs false
def num_Clamp.j0 : Nat → Int → Int → Int → Bool → Option (Int)
 | 0, _, _, _, _ => none
 | k + 1, x0, x1, x2, x7 => if x7 = true then (some x1) else (if x0 > x2 then (some x2) else (some x0))
def num_Clamp.f (k : Nat) (a0 a1 a2 : Int) : Option (Int) := if a0 < a1 then (num_Clamp.j0 k a0 a1 a2 (decide (a0 < a1))) else (num_Clamp.j0 k a0 a1 a2 (decide (a2 < a1)))
theorem num_Clamp.mono_l : ∀ k, (∀ y0 y1 y2 y3, LeO (num_Clamp.j0 k y0 y1 y2 y3) (num_Clamp.j0 (k + 1) y0 y1 y2 y3))
 | 0 => fun _ _ _ _ r h => by simp [num_Clamp.j0] at h
 | k + 1 => by
  have B0 := num_Clamp.mono_l k
  ·intro y0 y1 y2 y3
   unfold num_Clamp.j0
   repeat' first
   | (with_reducible exact B0 _ _ _ _)
   | (with_reducible exact LeO.refl _)
   | (with_reducible exact LeO.none _)
   | (with_reducible refine LeO.ite ?_ ?_)
   | (with_reducible refine LeO.bind ?_ (fun _ => ?_))
   | exact B0 _ _ _ _
   | exact LeO.none _
   | refine LeO.ite ?_ ?_
   | refine LeO.bind ?_ (fun _ => ?_)
theorem num_Clamp.mono : ∀ a0 a1 a2 k, LeO (num_Clamp.f k a0 a1 a2) (num_Clamp.f (k + 1) a0 a1 a2) := by
 intro a0 a1 a2 k
 have B0 := num_Clamp.mono_l k
 unfold num_Clamp.f
 repeat' first
   | (with_reducible exact B0 _ _ _ _)
   | (with_reducible exact LeO.refl _)
   | (with_reducible exact LeO.none _)
   | (with_reducible refine LeO.ite ?_ ?_)
   | (with_reducible refine LeO.bind ?_ (fun _ => ?_))
   | exact B0 _ _ _ _
   | exact LeO.none _
   | refine LeO.ite ?_ ?_
   | refine LeO.bind ?_ (fun _ => ?_)
set_option maxHeartbeats 8000000 in
set_option maxRecDepth 100000 in
theorem num_Clamp.calls (k : Nat) (a0 a1 a2 r : Int) (w : World) (h : num_Clamp.f k a0 a1 a2 = some r) :
  Calls Try.prog 52 #[.int .i64 a0, .int .i64 a1, .int .i64 a2] w fun e w' => e = .returned (.int .i64 r) ∧ Drawn0 w w' := by
 have H := h
 unfold num_Clamp.f at H
 clear h
 have B2 := am_ H
 clear H
 go_enter Try.func52, Try.ntmps52
 go_upto_if 7 with (fail)
 go_cut [7] (fun v7 wc => ∃ (kq : Nat) (B1 : Bool), v7 = .bool B1 ∧ Aside0 (num_Clamp.j0 kq a0 a1 a2 B1 = some r) ∧ Aside0 (kq ≤ k) ∧ Drawn0 w wc)
 case first =>
  have H := B2.out
  clear B2
  by_cases c5 : a0 < a1
  ·rw [if_pos c5] at H
   have B0 : decide (a0 < a1) = true := decide_eq_true c5
   clear c5
   (first | rw [B0] | (simp only [i64_w, i32_w]; rw [B0]) | skip)
   have H' := am_ H
   clear H
   go_wp2
   go_meet
   case rel => exact ⟨_, (decide (a0 < a1)), (by first | rfl | (simp; done) | (simp [*]; done)), H', ⟨by first | omega | exact Nat.le_refl _⟩, by repeat (first | exact Drawn0.refl _ | apply Drawn0.step)⟩
  ·rw [if_neg c5] at H
   have B0 : decide (a0 < a1) = false := decide_eq_false c5
   clear c5
   (first | rw [B0] | (simp only [i64_w, i32_w]; rw [B0]) | skip)
   have H' := am_ H
   clear H
   go_wp2
   go_meet
   case rel => exact ⟨_, (decide (a2 < a1)), (by first | rfl | (simp; done) | (simp [*]; done)), H', ⟨by first | omega | exact Nat.le_refl _⟩, by repeat (first | exact Drawn0.refl _ | apply Drawn0.step)⟩
 case rest =>
  clear B2
  try clear p2
  try clear c5
  try clear B0
  obtain ⟨kq, B1, rfl, HA, B4, ⟨B5, rfl⟩⟩ := hcut
  cases kq with
  | zero => exact absurd HA.out (by simp [num_Clamp.j0])
  | succ B6 =>
   have H := HA.out
   clear HA
   simp only [num_Clamp.j0] at H
   by_cases c6 : B1 = true
   ·subst c6
    rw [if_pos rfl] at H
    obtain rfl := Option.some.inj H
    go_wp2
    go_ret
    exact ⟨by first | rfl | (simp; done) | (simp [*]; done), by repeat (first | exact Drawn0.refl _ | apply Drawn0.step)⟩
   ·replace c6 := Bool.eq_false_iff.mpr c6
    subst c6
    rw [if_neg (show ¬ (false = true) by decide)] at H
    by_cases c7 : a0 > a2
    ·rw [if_pos c7] at H
     have B3 : decide (a2 < a0) = true := decide_eq_true c7
     clear c7
     obtain rfl := Option.some.inj H
     go_wp2
     go_ret
     exact ⟨by first | rfl | (simp; done) | (simp [*]; done), by repeat (first | exact Drawn0.refl _ | apply Drawn0.step)⟩
    ·rw [if_neg c7] at H
     have B3 : decide (a2 < a0) = false := decide_eq_false c7
     clear c7
     obtain rfl := Option.some.inj H
     go_wp2
     go_ret
     exact ⟨by first | rfl | (simp; done) | (simp [*]; done), by repeat (first | exact Drawn0.refl _ | apply Drawn0.step)⟩
end Go.Proofs.Ytdnccjlfongdeaa.Gn
