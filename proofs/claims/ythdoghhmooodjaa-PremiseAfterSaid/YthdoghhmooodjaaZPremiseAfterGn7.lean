import Derived.Test.YthdoghhmooodjaaZPremiseAfterGn1
import Derived.Test.YthdoghhmooodjaaZPremiseAfterGn0
namespace Go.Proofs.Ythdoghhmooodjaa.Gn
open Go.RowKit Go.Proofs.YthdoghhmooodjaaW.PrintWords Go.Proofs.YthdoghhmooodjaaW.PrintLast Go.Proofs.YthdoghhmooodjaaW.PrintMore
attribute [local go_sem] max2_int min2_int max_two min_two max_three min_three max_four min_four   -- for this text's walks alone
set_option linter.unusedVariables false
set_option linter.unusedSimpArgs false
def num_Clamp.j0 : Nat → Int → Int → Int → Bool → Option (Int)
 | 0, _, _, _, _ => none
 | k + 1, x0, x1, x2, x7 => if x7 = true then (some x1) else (if x0 > x2 then (some x2) else (some x0))
def num_Clamp.f (k : Nat) (a0 a1 a2 : Int) : Option (Int) := if a0 < a1 then (num_Clamp.j0 k a0 a1 a2 (decide (a0 < a1))) else (num_Clamp.j0 k a0 a1 a2 (decide (a2 < a1)))
theorem num_Clamp.mono_l : ∀ k, (∀ y0 y1 y2 y3, LeO (num_Clamp.j0 k y0 y1 y2 y3) (num_Clamp.j0 (k + 1) y0 y1 y2 y3))
 | 0 => fun _ _ _ _ r h => by simp [num_Clamp.j0] at h
 | k + 1 => by
  have B0 := num_Clamp.mono_l k
  ·intro y0 y1 y2 y3
   unfold num_Clamp.j0
   repeat' first
   | (with_reducible exact B0 _ _ _ _)
   | (with_reducible exact LeO.refl _)
   | (with_reducible exact LeO.none _)
   | (with_reducible refine LeO.ite ?_ ?_)
   | (with_reducible refine LeO.bind ?_ (fun _ => ?_))
   | exact B0 _ _ _ _
   | exact LeO.none _
   | refine LeO.ite ?_ ?_
   | refine LeO.bind ?_ (fun _ => ?_)
theorem num_Clamp.mono : ∀ a0 a1 a2 k, LeO (num_Clamp.f k a0 a1 a2) (num_Clamp.f (k + 1) a0 a1 a2) := by
 intro a0 a1 a2 k
 have B0 := num_Clamp.mono_l k
 unfold num_Clamp.f
 repeat' first
   | (with_reducible exact B0 _ _ _ _)
   | (with_reducible exact LeO.refl _)
   | (with_reducible exact LeO.none _)
   | (with_reducible refine LeO.ite ?_ ?_)
   | (with_reducible refine LeO.bind ?_ (fun _ => ?_))
   | exact B0 _ _ _ _
   | exact LeO.none _
   | refine LeO.ite ?_ ?_
   | refine LeO.bind ?_ (fun _ => ?_)
set_option maxHeartbeats 8000000 in
set_option maxRecDepth 100000 in
theorem num_Clamp.calls (k : Nat) (a0 a1 a2 r : Int) (w : World) (h : num_Clamp.f k a0 a1 a2 = some r) :
  Calls Try.prog 81 #[.int .i64 a0, .int .i64 a1, .int .i64 a2] w fun e w' => e = .returned (.int .i64 r) ∧ Drawn0 w w' := by
 have H := h
 unfold num_Clamp.f at H
 clear h
 have B2 := am_ H
 clear H
 go_enter Try.func81, Try.ntmps81
 go_upto_if 7 with (fail)
 go_cut [7] (fun v7 wc => ∃ (kq : Nat) (B1 : Bool), v7 = .bool B1 ∧ Aside0 (num_Clamp.j0 kq a0 a1 a2 B1 = some r) ∧ Aside0 (kq ≤ k) ∧ Drawn0 w wc)
 case first =>
  have H := B2.out
  clear B2
  by_cases c5 : a0 < a1
  ·rw [if_pos c5] at H
   have B0 : decide (a0 < a1) = true := decide_eq_true c5
   clear c5
   (first | rw [B0] | (simp only [i64_w, i32_w]; rw [B0]) | skip)
   have H' := am_ H
   clear H
   go_wp2
   go_meet
   case rel => exact ⟨_, (decide (a0 < a1)), (by first | rfl | (simp; done) | (simp [*]; done)), H', ⟨by first | omega | exact Nat.le_refl _⟩, by repeat (first | exact Drawn0.refl _ | apply Drawn0.step)⟩
  ·rw [if_neg c5] at H
   have B0 : decide (a0 < a1) = false := decide_eq_false c5
   clear c5
   (first | rw [B0] | (simp only [i64_w, i32_w]; rw [B0]) | skip)
   have H' := am_ H
   clear H
   go_wp2
   go_meet
   case rel => exact ⟨_, (decide (a2 < a1)), (by first | rfl | (simp; done) | (simp [*]; done)), H', ⟨by first | omega | exact Nat.le_refl _⟩, by repeat (first | exact Drawn0.refl _ | apply Drawn0.step)⟩
 case rest =>
  clear B2
  try clear p2
  try clear c5
  try clear B0
  obtain ⟨kq, B1, rfl, HA, B4, ⟨B5, rfl⟩⟩ := hcut
  cases kq with
  | zero => exact absurd HA.out (by simp [num_Clamp.j0])
  | succ B6 =>
   have H := HA.out
   clear HA
   simp only [num_Clamp.j0] at H
   by_cases c6 : B1 = true
   ·subst c6
    rw [if_pos rfl] at H
    obtain rfl := Option.some.inj H
    go_wp2
    go_ret
    exact ⟨by first | rfl | (simp; done) | (simp [*]; done), by repeat (first | exact Drawn0.refl _ | apply Drawn0.step)⟩
   ·replace c6 := Bool.eq_false_iff.mpr c6
    subst c6
    rw [if_neg (show ¬ (false = true) by decide)] at H
    by_cases c7 : a0 > a2
    ·rw [if_pos c7] at H
     have B3 : decide (a2 < a0) = true := decide_eq_true c7
     clear c7
     obtain rfl := Option.some.inj H
     go_wp2
     go_ret
     exact ⟨by first | rfl | (simp; done) | (simp [*]; done), by repeat (first | exact Drawn0.refl _ | apply Drawn0.step)⟩
    ·rw [if_neg c7] at H
     have B3 : decide (a2 < a0) = false := decide_eq_false c7
     clear c7
     obtain rfl := Option.some.inj H
     go_wp2
     go_ret
     exact ⟨by first | rfl | (simp; done) | (simp [*]; done), by repeat (first | exact Drawn0.refl _ | apply Drawn0.step)⟩
end Go.Proofs.Ythdoghhmooodjaa.Gn
namespace Go.Proofs.Ythdoghhmooodjaa.Gn
open Go.RowKit Go.Proofs.YthdoghhmooodjaaW.PrintWords Go.Proofs.YthdoghhmooodjaaW.PrintLast Go.Proofs.YthdoghhmooodjaaW.PrintMore
attribute [local go_sem] max2_int min2_int max_two min_two max_three min_three max_four min_four   -- for this text's walks alone
set_option linter.unusedVariables false
set_option linter.unusedSimpArgs false
def script_nodes.f (k : Nat) (B0 B3 B4 B5 B6 B7 B8 B9 Ba Bb : Int) (B2 : List Int) : Option (Int) := (num_Clamp.f k B0 0 13).bind fun B1 => (some B1)
theorem script_nodes.mono : ∀ a0 a1 a2 a3 a4 a5 a6 a7 a8 a9 B0 k, LeO (script_nodes.f k a0 a1 a2 a3 a4 a5 a6 a7 a8 a9 B0) (script_nodes.f (k + 1) a0 a1 a2 a3 a4 a5 a6 a7 a8 a9 B0) := by
 intro a0 a1 a2 a3 a4 a5 a6 a7 a8 a9 B0 k
 unfold script_nodes.f
 repeat' first
   | (with_reducible exact num_Clamp.mono _ _ _ _)
   | (with_reducible exact LeO.refl _)
   | (with_reducible exact LeO.none _)
   | (with_reducible refine LeO.ite ?_ ?_)
   | (with_reducible refine LeO.bind ?_ (fun _ => ?_))
   | exact num_Clamp.mono _ _ _ _
   | exact LeO.none _
   | refine LeO.ite ?_ ?_
   | refine LeO.bind ?_ (fun _ => ?_)
set_option maxHeartbeats 8000000 in
set_option maxRecDepth 100000 in
theorem script_nodes.calls (k : Nat) (B5 B7 B8 B9 Ba Bb Bc Bd Be Bf : Int) (B1 : Option Addr) (B2 : Nat) (B0 : List Int) (r : Int) (w : World) (B3 : Kd.C (Kd.int .i64) w B1 B0.length B0) (B4 : B0.length ≤ B2) (h : script_nodes.f k B5 B7 B8 B9 Ba Bb Bc Bd Be Bf B0 = some r) :
  Calls Try.prog 49 #[.agg #[.int .i64 B5, .int .i64 B7, .int .i64 B8, .int .i64 B9, .int .i64 Ba, .int .i64 Bb, .int .i64 Bc, .int .i64 Bd, .int .i64 Be, .int .i64 Bf, .slice B1 B0.length B2]] w fun e w' => e = .returned (.int .i64 r) ∧ Below w.heap.size w w' := by
 have Bn := Try.underlying24
 have Bi := am_ B3
 have Bj := am_ B4
 clear B3 B4
 have HB := am_ (Below.refl w.heap.size w)
 have H := h
 unfold script_nodes.f at H
 clear h
 replace H := Option.bind_eq_some_iff.mp H
 obtain ⟨Bk, Bl, H⟩ := H
 replace H : (some Bk) = some r := H
 have A2 := am_ Bl
 clear Bl
 obtain rfl := Option.some.inj H
 go_enter Try.func49, Try.ntmps49
 go_wp2_with (first | ((with_reducible refine gate_dst (N := 1) rfl ?_); refine bxe_ 1 24 #[.int .i64 B5, .int .i64 B7, .int .i64 B8, .int .i64 B9, .int .i64 Ba, .int .i64 Bb, .int .i64 Bc, .int .i64 Bd, .int .i64 Be, .int .i64 Bf, .slice B1 B0.length B2] ?_; intro Bm hg w3 hbox hb; have B6 := am_ (hbox); have Bg := gwk_ HB hg; have Bh := Bg; replace HB := bst_ HB hb; clear hb hbox hg; have Bo := cells_11 B6.out; have Bp := frozen_11 B6.out) | ((with_reducible refine gate_callee (f := 81) rfl ?_); refine gom_ (some 5) Try.func81 (num_Clamp.calls k B5 0 13 _ _ A2.out) ?_; rintro e w' ⟨rfl, ⟨nd, rfl⟩⟩; refine ⟨_, rfl, ?_⟩))
 go_ret
 exact ⟨by first | rfl | (simp [*] <;> rfl), by repeat (first | (with_reducible first | exact HB.out | apply ba_ | apply bn_ | apply bd_ | refine bs_ ?_ Bh.out) | exact HB.out)⟩
def script_is.f (k : Nat) (B1 B2 B3 B4 B5 B6 B7 B8 B9 Ba : Int) (B0 : List Int) (a1 : Int) : Option (Bool) := if a1 ≥ 0 then ((script_nodes.f k B1 B2 B3 B4 B5 B6 B7 B8 B9 Ba B0).bind fun Bb => (some (decide (a1 < Bb)))) else (some false)
theorem script_is.mono : ∀ a0 a1 a2 a3 a4 a5 a6 a7 a8 a9 B0 B1 k, LeO (script_is.f k a0 a1 a2 a3 a4 a5 a6 a7 a8 a9 B0 B1) (script_is.f (k + 1) a0 a1 a2 a3 a4 a5 a6 a7 a8 a9 B0 B1) := by
 intro a0 a1 a2 a3 a4 a5 a6 a7 a8 a9 B0 B1 k
 unfold script_is.f
 repeat' first
   | (with_reducible exact script_nodes.mono _ _ _ _ _ _ _ _ _ _ _ _)
   | (with_reducible exact LeO.refl _)
   | (with_reducible exact LeO.none _)
   | (with_reducible refine LeO.ite ?_ ?_)
   | (with_reducible refine LeO.bind ?_ (fun _ => ?_))
   | exact script_nodes.mono _ _ _ _ _ _ _ _ _ _ _ _
   | exact LeO.none _
   | refine LeO.ite ?_ ?_
   | refine LeO.bind ?_ (fun _ => ?_)
set_option maxHeartbeats 8000000 in
set_option maxRecDepth 100000 in
theorem script_is.calls (k : Nat) (B4 B5 B6 B7 B8 B9 Ba Bb Bc Bd : Int) (B2 : Option Addr) (B3 : Nat) (B0 : List Int) (a1 : Int) (r : Bool) (w : World) (Be : Kd.C (Kd.int .i64) w B2 B0.length B0) (Bf : B0.length ≤ B3) (h : script_is.f k B4 B5 B6 B7 B8 B9 Ba Bb Bc Bd B0 a1 = some r) :
  Calls Try.prog 47 #[.agg #[.int .i64 B4, .int .i64 B5, .int .i64 B6, .int .i64 B7, .int .i64 B8, .int .i64 B9, .int .i64 Ba, .int .i64 Bb, .int .i64 Bc, .int .i64 Bd, .slice B2 B0.length B3], .int .i64 a1] w fun e w' => e = .returned (.bool r) ∧ Below w.heap.size w w' := by
 have Bo := Try.underlying24
 have Bi := am_ Be
 have Bj := am_ Bf
 clear Be Bf
 have HB := am_ (Below.refl w.heap.size w)
 have H := h
 unfold script_is.f at H
 clear h
 by_cases c3 : a1 ≥ 0
 ·rw [if_pos c3] at H
  have Bl : decide (0 ≤ a1) = true := decide_eq_true c3
  clear c3
  replace H := Option.bind_eq_some_iff.mp H
  obtain ⟨Bm, Bn, H⟩ := H
  replace H : (some (decide (a1 < Bm))) = some r := H
  have A4 := am_ Bn
  clear Bn
  obtain rfl := Option.some.inj H
  go_enter Try.func47, Try.ntmps47
  go_wp2_with (first | ((with_reducible refine gate_dst (N := 2) rfl ?_); refine bxe_ 2 24 #[.int .i64 B4, .int .i64 B5, .int .i64 B6, .int .i64 B7, .int .i64 B8, .int .i64 B9, .int .i64 Ba, .int .i64 Bb, .int .i64 Bc, .int .i64 Bd, .slice B2 B0.length B3] ?_; intro Bk hg w5 hbox hb; have B1 := am_ (hbox); have Bg := gwk_ HB hg; have Bh := Bg; replace HB := bst_ HB hb; clear hb hbox hg; have Bp := cells_11 B1.out; have Bq := frozen_11 B1.out) | (go_at_call 49; (with_reducible refine (script_nodes.calls k B4 B5 B6 B7 B8 B9 Ba Bb Bc Bd _ _ B0 _ _ (Kd.C_below Bi.out HB.out) Bj.out A4.out).mono ?_); rintro e w7 ⟨rfl, hb⟩; replace B1 := bkb_ B1 hb; replace HB := bst_ HB hb; (try clear hb)))
  go_ret
  exact ⟨by first | rfl | (simp [*] <;> rfl), by repeat (first | (with_reducible first | exact HB.out | apply ba_ | apply bn_ | apply bd_ | refine bs_ ?_ Bh.out) | exact HB.out)⟩
 ·rw [if_neg c3] at H
  have Bl : decide (0 ≤ a1) = false := decide_eq_false c3
  clear c3
  obtain rfl := Option.some.inj H
  go_enter Try.func47, Try.ntmps47
  go_wp2_with (first | ((with_reducible refine gate_dst (N := 2) rfl ?_); refine bxe_ 2 24 #[.int .i64 B4, .int .i64 B5, .int .i64 B6, .int .i64 B7, .int .i64 B8, .int .i64 B9, .int .i64 Ba, .int .i64 Bb, .int .i64 Bc, .int .i64 Bd, .slice B2 B0.length B3] ?_; intro Bk hg w8 hbox hb; have B1 := am_ (hbox); have Bg := gwk_ HB hg; have Bh := Bg; replace HB := bst_ HB hb; clear hb hbox hg))
  go_ret
  exact ⟨by first | rfl | (simp [*] <;> rfl), by repeat (first | (with_reducible first | exact HB.out | apply ba_ | apply bn_ | apply bd_ | refine bs_ ?_ Bh.out) | exact HB.out)⟩
end Go.Proofs.Ythdoghhmooodjaa.Gn
namespace Go.Proofs.Ythdoghhmooodjaa.Gn
open Go.RowKit Go.Proofs.YthdoghhmooodjaaW.PrintWords Go.Proofs.YthdoghhmooodjaaW.PrintLast Go.Proofs.YthdoghhmooodjaaW.PrintMore
attribute [local go_sem] max2_int min2_int max_two min_two max_three min_three max_four min_four   -- for this text's walks alone
set_option linter.unusedVariables false
set_option linter.unusedSimpArgs false
def slices_Index_int_int.l0 : Nat → List Int → Int → Int → Int → Option (Int)
 | 0, _, _, _, _ => none
 | k + 1, x0, x1, x7, x8 => if x8 < x7 then (if 0 ≤ x8 then (if x8 < (x0.length : Int) then (if x1 = (rd x0 x8) then (some x8) else (slices_Index_int_int.l0 k x0 x1 x7 (wrap64 (x8 + 1)))) else (none)) else (none)) else (some (-1))
def slices_Index_int_int.f (k : Nat) (l0 : List Int) (a1 : Int) : Option (Int) := slices_Index_int_int.l0 k l0 a1 (l0.length : Int) 0
theorem slices_Index_int_int.mono_l : ∀ k, (∀ y0 y1 y2 y3, LeO (slices_Index_int_int.l0 k y0 y1 y2 y3) (slices_Index_int_int.l0 (k + 1) y0 y1 y2 y3))
 | 0 => fun _ _ _ _ r h => by simp [slices_Index_int_int.l0] at h
 | k + 1 => by
  have B0 := slices_Index_int_int.mono_l k
  ·intro y0 y1 y2 y3
   unfold slices_Index_int_int.l0
   repeat' first
   | (with_reducible exact B0 _ _ _ _)
   | (with_reducible exact LeO.refl _)
   | (with_reducible exact LeO.none _)
   | (with_reducible refine LeO.ite ?_ ?_)
   | (with_reducible refine LeO.bind ?_ (fun _ => ?_))
   | exact B0 _ _ _ _
   | exact LeO.none _
   | refine LeO.ite ?_ ?_
   | refine LeO.bind ?_ (fun _ => ?_)
theorem slices_Index_int_int.mono : ∀ a0 a1 k, LeO (slices_Index_int_int.f k a0 a1) (slices_Index_int_int.f (k + 1) a0 a1) := by
 intro a0 a1 k
 have B0 := slices_Index_int_int.mono_l k
 unfold slices_Index_int_int.f
 repeat' first
   | (with_reducible exact B0 _ _ _ _)
   | (with_reducible exact LeO.refl _)
   | (with_reducible exact LeO.none _)
   | (with_reducible refine LeO.ite ?_ ?_)
   | (with_reducible refine LeO.bind ?_ (fun _ => ?_))
   | exact B0 _ _ _ _
   | exact LeO.none _
   | refine LeO.ite ?_ ?_
   | refine LeO.bind ?_ (fun _ => ?_)
set_option maxHeartbeats 8000000 in
set_option maxRecDepth 100000 in
theorem slices_Index_int_int.calls (k : Nat) (A0 : Option Addr) (c0 : Nat) (l0 : List Int) (a1 r : Int) (w : World) (B9 : Kd.C (Kd.int .i64) w A0 l0.length l0) (Ba : l0.length ≤ c0) (h : slices_Index_int_int.f k l0 a1 = some r) :
  Calls Try.prog 82 #[.slice A0 l0.length c0, .int .i64 a1] w fun e w' => e = .returned (.int .i64 r) ∧ Drawn0 w w' := by
 have Bb := am_ B9
 have Bf := am_ Ba
 clear B9 Ba
 have H := h
 unfold slices_Index_int_int.f at H
 clear h
 have H' := am_ H
 clear H
 go_enter Try.func82, Try.ntmps82
 go_wp2
 go_loopg [8] k (fun kq v8 w' => ∃ (B0 : Int), v8 = .int .i64 B0 ∧ Aside0 (slices_Index_int_int.l0 kq l0 a1 (l0.length : Int) B0 = some r) ∧ Aside0 (kq ≤ k) ∧ Drawn0 w w')
 case atStart => exact ⟨(0), (by first | rfl | (simp; done) | (simp [*]; done)), H', ⟨Nat.le_refl _⟩, by repeat (first | exact Drawn0.refl _ | apply Drawn0.step)⟩
 case round =>
  clear H'
  try clear p2
  obtain ⟨B0, rfl, HA, Bc, ⟨m1, rfl⟩⟩ := hrel
  cases gk with
  | zero => exact absurd HA.out (by simp [slices_Index_int_int.l0])
  | succ k1 =>
   have H := HA.out
   clear HA
   simp only [slices_Index_int_int.l0] at H
   by_cases c3 : B0 < (l0.length : Int)
   ·rw [if_pos c3] at H
    have B6 : decide (B0 < (l0.length : Int)) = true := decide_eq_true c3
    clear c3
    by_cases c4 : 0 ≤ B0
    ·rw [if_pos c4] at H
     have Bd : decide (0 ≤ B0) = true := decide_eq_true c4
     clear c4
     by_cases c5 : B0 < (l0.length : Int)
     ·rw [if_pos c5] at H
      have Be : decide (B0 < (l0.length : Int)) = true := decide_eq_true c5
      clear c5
      by_cases c6 : a1 = (rd l0 B0)
      ·rw [if_pos c6] at H
       have B7 : (a1 == (rd l0 B0)) = true := beq_iff_eq.mpr c6
       have B8 : (a1 != (rd l0 B0)) = false := bne_eq_false_iff_eq.mpr c6
       clear c6
       obtain rfl := Option.some.inj H
       have B1 : 0 ≤ (B0 : Int) := of_decide_eq_true (by first | (with_reducible assumption) | assumption)
       have B2 : B0 < (l0.length : Int) := of_decide_eq_true (by first | (with_reducible assumption) | assumption)
       obtain ⟨B5, B4, B3⟩ := Kd.at_int Bb.out B0 B1 B2
       cases B4
       replace B1 := eq_true B1
       replace B2 := eq_true B2
       go_wp2
       go_ret
       exact ⟨by first | rfl | (simp; done) | (simp [*]; done), by repeat (first | exact Drawn0.refl _ | apply Drawn0.step)⟩
      ·rw [if_neg c6] at H
       have B7 : (a1 == (rd l0 B0)) = false := beq_eq_false_iff_ne.mpr c6
       have B8 : (a1 != (rd l0 B0)) = true := bne_iff_ne.mpr c6
       have H' := am_ H
       clear H
       have B1 : 0 ≤ (B0 : Int) := of_decide_eq_true (by first | (with_reducible assumption) | assumption)
       have B2 : B0 < (l0.length : Int) := of_decide_eq_true (by first | (with_reducible assumption) | assumption)
       obtain ⟨B5, B4, B3⟩ := Kd.at_int Bb.out B0 B1 B2
       cases B4
       replace B1 := eq_true B1
       replace B2 := eq_true B2
       go_wp2
       go_roundg k1
       case measure => have := Bc.out; omega
       case rel => exact ⟨(wrap64 (B0 + 1)), (by first | rfl | (simp; done) | (simp [*]; done)), H', ⟨by have := Bc.out; omega⟩, by repeat (first | exact Drawn0.refl _ | apply Drawn0.step)⟩
     ·rw [if_neg c5] at H
      exact absurd H (by simp)
    ·rw [if_neg c4] at H
     exact absurd H (by simp)
   ·rw [if_neg c3] at H
    have B6 : decide (B0 < (l0.length : Int)) = false := decide_eq_false c3
    clear c3
    obtain rfl := Option.some.inj H
    go_wp2
    go_ret
    exact ⟨by first | rfl | (simp; done) | (simp [*]; done), by repeat (first | exact Drawn0.refl _ | apply Drawn0.step)⟩
def slices_Contains_int_int.f (k : Nat) (l0 : List Int) (a1 : Int) : Option (Bool) := (slices_Index_int_int.f k l0 a1).bind fun B0 => (some (decide (B0 ≥ 0)))
theorem slices_Contains_int_int.mono : ∀ a0 a1 k, LeO (slices_Contains_int_int.f k a0 a1) (slices_Contains_int_int.f (k + 1) a0 a1) := by
 intro a0 a1 k
 unfold slices_Contains_int_int.f
 repeat' first
   | (with_reducible exact slices_Index_int_int.mono _ _ _)
   | (with_reducible exact LeO.refl _)
   | (with_reducible exact LeO.none _)
   | (with_reducible refine LeO.ite ?_ ?_)
   | (with_reducible refine LeO.bind ?_ (fun _ => ?_))
   | exact slices_Index_int_int.mono _ _ _
   | exact LeO.none _
   | refine LeO.ite ?_ ?_
   | refine LeO.bind ?_ (fun _ => ?_)
set_option maxHeartbeats 8000000 in
set_option maxRecDepth 100000 in
theorem slices_Contains_int_int.calls (k : Nat) (A0 : Option Addr) (c0 : Nat) (l0 : List Int) (a1 : Int) (r : Bool) (w : World) (B1 : Kd.C (Kd.int .i64) w A0 l0.length l0) (B2 : l0.length ≤ c0) (h : slices_Contains_int_int.f k l0 a1 = some r) :
  Calls Try.prog 52 #[.slice A0 l0.length c0, .int .i64 a1] w fun e w' => e = .returned (.bool r) ∧ Drawn0 w w' := by
 have B4 := am_ B1
 have B5 := am_ B2
 clear B1 B2
 have H := h
 unfold slices_Contains_int_int.f at H
 clear h
 replace H := Option.bind_eq_some_iff.mp H
 obtain ⟨B0, B3, H⟩ := H
 replace H : (some (decide (B0 ≥ 0))) = some r := H
 have A3 := am_ B3
 clear B3
 obtain rfl := Option.some.inj H
 go_enter Try.func52, Try.ntmps52
 go_wp2_with (first | ((with_reducible refine gate_callee (f := 82) rfl ?_); refine gom_ (some 7) Try.func82 (slices_Index_int_int.calls k _ _ l0 a1 _ _ ?side1 B5.out A3.out) ?_; (case side1 => repeat (first | exact B4.out | (with_reducible refine Kd.C_alloc ?_ _) | (with_reducible refine Kd.C_drewN ?_ _) | (with_reducible refine Kd.C_drew ?_))); rintro e w' ⟨rfl, ⟨nd, rfl⟩⟩; refine ⟨_, rfl, ?_⟩))
 go_ret
 exact ⟨by first | rfl | (simp; done) | (simp [*]; done), by repeat (first | exact Drawn0.refl _ | apply Drawn0.step)⟩
end Go.Proofs.Ythdoghhmooodjaa.Gn
