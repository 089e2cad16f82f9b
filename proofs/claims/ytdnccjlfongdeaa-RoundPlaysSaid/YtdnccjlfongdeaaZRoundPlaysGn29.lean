import Derived.Test.YtdnccjlfongdeaaZRoundPlaysGn2
import Derived.Test.YtdnccjlfongdeaaZRoundPlaysGn0
import Derived.Test.YtdnccjlfongdeaaZRoundPlaysGn25
namespace Go.Proofs.Ytdnccjlfongdeaa.Gn
open Go.RowKit Go.Proofs.YtdnccjlfongdeaaW.PrintWords Go.Proofs.YtdnccjlfongdeaaW.PrintLast Go.Proofs.YtdnccjlfongdeaaW.PrintMore
attribute [local go_sem] max2_int min2_int max_two min_two max_three min_three max_four min_four   -- for this text's walks alone
set_option linter.unusedVariables false
set_option linter.unusedSimpArgs false
def r23_Has.f (a0 : ByteArray) (a1 : Int) : Option (Bool) := if a1 ≥ 0 then (if a1 < (a0.size : Int) then (if 0 ≤ a1 then (some ((bt a0 a1) == 49)) else (none)) else (some false)) else (some false)
set_option maxHeartbeats 8000000 in
set_option maxRecDepth 100000 in
theorem r23_Has.calls (a0 : ByteArray) (a1 : Int) (r : Bool) (w : World) (h : r23_Has.f a0 a1 = some r) :
  Calls Try.prog 55 #[.string a0, .int .i64 a1] w fun e w' => e = .returned (.bool r) ∧ Drawn0 w w' := by
 have H := h
 unfold r23_Has.f at H
 clear h
 by_cases c3 : a1 ≥ 0
 ·rw [if_pos c3] at H
  have B0 : decide (0 ≤ a1) = true := decide_eq_true c3
  clear c3
  by_cases c4 : a1 < (a0.size : Int)
  ·rw [if_pos c4] at H
   have B1 : decide (a1 < (a0.size : Int)) = true := decide_eq_true c4
   clear c4
   by_cases c5 : 0 ≤ a1
   ·rw [if_pos c5] at H
    have B2 : decide (0 ≤ a1) = true := decide_eq_true c5
    clear c5
    obtain rfl := Option.some.inj H
    have p6 : 0 ≤ (a1 : Int) := of_decide_eq_true (by first | (with_reducible assumption) | assumption)
    have q6 : a1 < (a0.size : Int) := of_decide_eq_true (by first | (with_reducible assumption) | assumption)
    have B3 := bt_at a0 a1
    replace p6 := eq_true p6
    replace q6 := eq_true q6
    go_enter Try.func55, Try.ntmps55
    go_wp2
    go_ret
    exact ⟨by first | rfl | (simp; done) | (simp [*]; done), by repeat (first | exact Drawn0.refl _ | apply Drawn0.step)⟩
   ·rw [if_neg c5] at H
    exact absurd H (by simp)
  ·rw [if_neg c4] at H
   have B1 : decide (a1 < (a0.size : Int)) = false := decide_eq_false c4
   clear c4
   obtain rfl := Option.some.inj H
   go_enter Try.func55, Try.ntmps55
   go_wp2
   go_ret
   exact ⟨by first | rfl | (simp; done) | (simp [*]; done), by repeat (first | exact Drawn0.refl _ | apply Drawn0.step)⟩
 ·rw [if_neg c3] at H
  have B0 : decide (0 ≤ a1) = false := decide_eq_false c3
  clear c3
  obtain rfl := Option.some.inj H
  go_enter Try.func55, Try.ntmps55
  go_wp2
  go_ret
  exact ⟨by first | rfl | (simp; done) | (simp [*]; done), by repeat (first | exact Drawn0.refl _ | apply Drawn0.step)⟩
def r23_Mark.l0 : Nat → ByteArray → Int → List Int → ByteArray → Int → Option (ByteArray)
 | 0, _, _, _, _, _ => none
 | k + 1, x0, x1, x2, x7, x8 => (r01_Clamp.f x1 0 64).bind fun B0 => (if x8 < B0 then ((r23_Has.f x0 x8).bind fun B1 => (if B1 = true then (if x7.size + 1 ≤ 9223372036854775807 then (r23_Mark.l0 k x0 x1 x2 (x7 ++ (⟨#[49]⟩ : ByteArray)) (wrap64 (x8 + 1))) else (none)) else ((r14_In.f k x2 x8).bind fun B2 => (if B2 = true then (if x7.size + 1 ≤ 9223372036854775807 then (r23_Mark.l0 k x0 x1 x2 (x7 ++ (⟨#[49]⟩ : ByteArray)) (wrap64 (x8 + 1))) else (none)) else (if x7.size + 1 ≤ 9223372036854775807 then (r23_Mark.l0 k x0 x1 x2 (x7 ++ (⟨#[48]⟩ : ByteArray)) (wrap64 (x8 + 1))) else (none)))))) else (some x7))
def r23_Mark.f (k : Nat) (a0 : ByteArray) (a1 : Int) (l2 : List Int) : Option (ByteArray) := r23_Mark.l0 k a0 a1 l2 (⟨#[]⟩ : ByteArray) 0
set_option maxHeartbeats 8000000 in
set_option maxRecDepth 100000 in
theorem r23_Mark.calls (k : Nat) (a0 : ByteArray) (a1 : Int) (A2 : Option Addr) (c2 : Nat) (l2 : List Int) (r : ByteArray) (w : World) (Ba : Kd.C (Kd.int .i64) w A2 l2.length l2) (Bb : l2.length ≤ c2) (h : r23_Mark.f k a0 a1 l2 = some r) :
  Calls Try.prog 50 #[.string a0, .int .i64 a1, .slice A2 l2.length c2] w fun e w' => e = .returned (.string r) ∧ Below w.heap.size w w' := by
 have Bc := am_ Ba
 have Bd := am_ Bb
 clear Ba Bb
 have HB := am_ (Below.refl w.heap.size w)
 have H := h
 unfold r23_Mark.f at H
 clear h
 have H' := am_ H
 clear H
 go_enter Try.func50, Try.ntmps50
 go_wp2
 go_loopg [7, 8] k (fun kq v7 v8 w' => ∃ (B0 : ByteArray) (B1 : Int), v7 = .string B0 ∧ v8 = .int .i64 B1 ∧ Aside0 (r23_Mark.l0 kq a0 a1 l2 B0 B1 = some r) ∧ Aside0 (kq ≤ k) ∧ Aside0 (Below w.heap.size w w'))
 case atStart => exact ⟨((⟨#[]⟩ : ByteArray)), (0), (by first | rfl | (simp; done) | (simp [*]; done)), (by first | rfl | (simp; done) | (simp [*]; done)), H', ⟨Nat.le_refl _⟩, ⟨by repeat (first | (with_reducible first | exact HB.out | apply ba_ | apply bn_ | apply bd_) | exact HB.out)⟩⟩
 case round =>
  clear H'
  try clear c2
  try clear p2
  obtain ⟨B0, B1, rfl, rfl, HA, B3, HB⟩ := hrel
  cases gk with
  | zero => exact absurd HA.out (by simp [r23_Mark.l0])
  | succ k1 =>
   have H := HA.out
   clear HA
   simp only [r23_Mark.l0] at H
   obtain ⟨B2, A4, H⟩ := bes_ H
   try dsimp only at H
   by_cases c5 : B1 < B2
   ·rw [if_pos c5] at H
    have B7 : decide (B1 < B2) = true := decide_eq_true c5
    clear c5
    obtain ⟨B8, A6, H⟩ := bes_ H
    try dsimp only at H
    by_cases c7 : B8 = true
    ·subst c7
     rw [if_pos rfl] at H
     by_cases c8 : B0.size + 1 ≤ 9223372036854775807
     ·rw [if_pos c8] at H
      have Bl := eq_true c8
      have Bm : decide (B0.size + 1 ≤ 9223372036854775807) = true := decide_eq_true c8
      try have Bn : (9223372036854775807 < B0.size + 1) = False := eq_false (Nat.not_lt.2 c8)
      have H' := am_ H
      clear H
      go_wp2_with (first | ((with_reducible refine gate_callee (f := 54) rfl ?_); refine gom_ (some 11) Try.func54 (r01_Clamp.calls a1 0 64 _ _ A4.out) ?_; rintro e w9 ⟨rfl, hb⟩; refine ⟨_, rfl, ?_⟩; replace HB := bst_ HB hb; (try clear hb)) | ((with_reducible refine gate_callee (f := 55) rfl ?_); refine gom_ (some 17) Try.func55 (r23_Has.calls a0 B1 _ _ A6.out) ?_; rintro e w' ⟨rfl, ⟨nd, rfl⟩⟩; refine ⟨_, rfl, ?_⟩))
      go_roundg k1
      case measure => have := B3.out; omega
      case rel => exact ⟨(B0 ++ (⟨#[49]⟩ : ByteArray)), (wrap64 (B1 + 1)), (by first | rfl | (simp; done) | (simp [*]; done)), (by first | rfl | (simp; done) | (simp [*]; done)), H', ⟨by have := B3.out; omega⟩, ⟨by repeat (first | (with_reducible first | exact HB.out | apply ba_ | apply bn_ | apply bd_) | exact HB.out)⟩⟩
     ·rw [if_neg c8] at H
      exact absurd H (by simp)
    ·replace c7 := Bool.eq_false_iff.mpr c7
     subst c7
     rw [if_neg (show ¬ (false = true) by decide)] at H
     obtain ⟨B9, Be, H⟩ := bes_ H
     try dsimp only at H
     by_cases B6 : B9 = true
     ·subst B6
      rw [if_pos rfl] at H
      by_cases B4 : B0.size + 1 ≤ 9223372036854775807
      ·rw [if_pos B4] at H
       have Bf := eq_true B4
       have Bg : decide (B0.size + 1 ≤ 9223372036854775807) = true := decide_eq_true B4
       try have Bh : (9223372036854775807 < B0.size + 1) = False := eq_false (Nat.not_lt.2 B4)
       have H' := am_ H
       clear H
       go_wp2_with (first | ((with_reducible refine gate_callee (f := 54) rfl ?_); refine gom_ (some 11) Try.func54 (r01_Clamp.calls a1 0 64 _ _ A4.out) ?_; rintro e w13 ⟨rfl, hb⟩; refine ⟨_, rfl, ?_⟩; replace HB := bst_ HB hb; (try clear hb)) | ((with_reducible refine gate_callee (f := 55) rfl ?_); refine gom_ (some 17) Try.func55 (r23_Has.calls a0 B1 _ _ A6.out) ?_; rintro e w' ⟨rfl, ⟨nd, rfl⟩⟩; refine ⟨_, rfl, ?_⟩) | (go_at_call 28; (with_reducible refine (r14_In.calls k1 _ _ l2 B1 _ _ ?side1 Bd.out Be.out).mono ?_); (case side1 => repeat (first | exact (Kd.C_below Bc.out (by repeat (first | (with_reducible first | exact HB.out | apply ba_ | apply bn_ | apply bd_) | exact HB.out))) | (with_reducible refine Kd.C_alloc ?_ _) | (with_reducible refine Kd.C_drewN ?_ _) | (with_reducible refine Kd.C_drew ?_))); rintro e w' ⟨rfl, ⟨nd, rfl⟩⟩))
       go_roundg k1
       case measure => have := B3.out; omega
       case rel => exact ⟨(B0 ++ (⟨#[49]⟩ : ByteArray)), (wrap64 (B1 + 1)), (by first | rfl | (simp; done) | (simp [*]; done)), (by first | rfl | (simp; done) | (simp [*]; done)), H', ⟨by have := B3.out; omega⟩, ⟨by repeat (first | (with_reducible first | exact HB.out | apply ba_ | apply bn_ | apply bd_) | exact HB.out)⟩⟩
      ·rw [if_neg B4] at H
       exact absurd H (by simp)
     ·replace B6 := Bool.eq_false_iff.mpr B6
      subst B6
      rw [if_neg (show ¬ (false = true) by decide)] at H
      by_cases B5 : B0.size + 1 ≤ 9223372036854775807
      ·rw [if_pos B5] at H
       have Bi := eq_true B5
       have Bj : decide (B0.size + 1 ≤ 9223372036854775807) = true := decide_eq_true B5
       try have Bk : (9223372036854775807 < B0.size + 1) = False := eq_false (Nat.not_lt.2 B5)
       have H' := am_ H
       clear H
       go_wp2_with (first | ((with_reducible refine gate_callee (f := 54) rfl ?_); refine gom_ (some 11) Try.func54 (r01_Clamp.calls a1 0 64 _ _ A4.out) ?_; rintro e w15 ⟨rfl, hb⟩; refine ⟨_, rfl, ?_⟩; replace HB := bst_ HB hb; (try clear hb)) | ((with_reducible refine gate_callee (f := 55) rfl ?_); refine gom_ (some 17) Try.func55 (r23_Has.calls a0 B1 _ _ A6.out) ?_; rintro e w' ⟨rfl, ⟨nd, rfl⟩⟩; refine ⟨_, rfl, ?_⟩) | (go_at_call 28; (with_reducible refine (r14_In.calls k1 _ _ l2 B1 _ _ ?side1 Bd.out Be.out).mono ?_); (case side1 => repeat (first | exact (Kd.C_below Bc.out (by repeat (first | (with_reducible first | exact HB.out | apply ba_ | apply bn_ | apply bd_) | exact HB.out))) | (with_reducible refine Kd.C_alloc ?_ _) | (with_reducible refine Kd.C_drewN ?_ _) | (with_reducible refine Kd.C_drew ?_))); rintro e w' ⟨rfl, ⟨nd, rfl⟩⟩))
       go_roundg k1
       case measure => have := B3.out; omega
       case rel => exact ⟨(B0 ++ (⟨#[48]⟩ : ByteArray)), (wrap64 (B1 + 1)), (by first | rfl | (simp; done) | (simp [*]; done)), (by first | rfl | (simp; done) | (simp [*]; done)), H', ⟨by have := B3.out; omega⟩, ⟨by repeat (first | (with_reducible first | exact HB.out | apply ba_ | apply bn_ | apply bd_) | exact HB.out)⟩⟩
      ·rw [if_neg B5] at H
       exact absurd H (by simp)
   ·rw [if_neg c5] at H
    have B7 : decide (B1 < B2) = false := decide_eq_false c5
    clear c5
    obtain rfl := Option.some.inj H
    go_wp2_with (first | ((with_reducible refine gate_callee (f := 54) rfl ?_); refine gom_ (some 11) Try.func54 (r01_Clamp.calls a1 0 64 _ _ A4.out) ?_; rintro e w16 ⟨rfl, hb⟩; refine ⟨_, rfl, ?_⟩; replace HB := bst_ HB hb; (try clear hb)))
    go_ret
    exact ⟨by first | rfl | (simp [*] <;> rfl), by repeat (first | (with_reducible first | exact HB.out | apply ba_ | apply bn_ | apply bd_) | exact HB.out)⟩
end Go.Proofs.Ytdnccjlfongdeaa.Gn
