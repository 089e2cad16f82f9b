import Derived.Test.YthdoghhmooodjaaZPremiseAfterGn0
import Derived.Test.YthdoghhmooodjaaZPremiseAfterGn1
import Derived.Test.YthdoghhmooodjaaZPremiseAfterGn6
import Derived.Test.YthdoghhmooodjaaZPremiseAfterGn10
import Derived.Test.YthdoghhmooodjaaZPremiseAfterGn15
namespace Go.Proofs.Ythdoghhmooodjaa.Gn
open Go.RowKit Go.Proofs.YthdoghhmooodjaaW.PrintWords Go.Proofs.YthdoghhmooodjaaW.PrintLast Go.Proofs.YthdoghhmooodjaaW.PrintMore
attribute [local go_sem] max2_int min2_int max_two min_two max_three min_three max_four min_four   -- for this text's walks alone
set_option linter.unusedVariables false
set_option linter.unusedSimpArgs false
mutual
def script_Right.j0 : Nat → Bool → Int → Int → Int → Int → Int → Int → Int → Int → Int → Int → List Int → List Int → List ByteArray → List (S44) → Option (Int)
 | 0, _, _, _, _, _, _, _, _, _, _, _, _, _, _, _ => none
 | k + 1, Bi, B1, B2, B3, B4, B5, B6, B7, B8, B9, Ba, Bb, Bc, Bd, B0 => if Bi = true then (some 6) else (script_Right.l0 k B0 (B0.length : Int) 0 B1 B2 B3 B4 B5 B6 B7 B8 B9 Ba Bb Bc Bd B0)
def script_Right.l0 : Nat → List (S44) → Int → Int → Int → Int → Int → Int → Int → Int → Int → Int → Int → Int → List Int → List Int → List ByteArray → List (S44) → Option (Int)
 | 0, _, _, _, _, _, _, _, _, _, _, _, _, _, _, _, _, _ => none
 | k + 1, Bf, Bh, Be, B1, B2, B3, B4, B5, B6, B7, B8, B9, Ba, Bb, Bc, Bd, B0 => if Be < Bh then (if 0 ≤ Be then (if Be < (Bf.length : Int) then ((script_tick.f k B1 B2 B3 B4 B5 B6 B7 B8 B9 Ba Bb ((rd_T44 Bf Be).f0) ((rd_T44 Bf Be).f1) ((rd_T44 Bf Be).f2) ((rd_T44 Bf Be).f3) ((rd_T44 Bf Be).f4) ((rd_T44 Bf Be).f5)).bind fun Bg => (if Bg = 0 then (script_Right.l0 k Bf Bh (wrap64 (Be + 1)) B1 B2 B3 B4 B5 B6 B7 B8 B9 Ba Bb Bc Bd B0) else (some Bg))) else (none)) else (none)) else (some 0)
end
def script_Right.f (k : Nat) (B4 B5 B6 B7 B8 B9 Ba Bb Bc Bd : Int) (B1 B3 : List Int) (B0 : List ByteArray) (B2 : List (S44)) : Option (Int) := (bound_Right.f k B4 B5 B6 B7 B8 B9 Ba Bb Bc Bd B1).bind fun Be => (if Be = 0 then ((script_faulty.f k B4 B5 B6 B7 B8 B9 Ba Bb Bc Bd B1 B3 B0 B2).bind fun Bf => (if Bf = true then (if (B0.length : Int) > B4 then (script_Right.j0 k true B4 B5 B6 B7 B8 B9 Ba Bb Bc Bd B1 B3 B0 B2) else (if (B2.length : Int) > 2000 then (script_Right.j0 k true B4 B5 B6 B7 B8 B9 Ba Bb Bc Bd B1 B3 B0 B2) else ((script_every_Right1.f B0 ()).bind fun Bg => (script_Right.j0 k (!Bg) B4 B5 B6 B7 B8 B9 Ba Bb Bc Bd B1 B3 B0 B2)))) else (some 7))) else (some Be))
theorem script_Right.mono_l : ∀ k, (∀ y0 y1 y2 y3 y4 y5 y6 y7 y8 y9 B0 B1 B2 B3 B4, LeO (script_Right.j0 k y0 y1 y2 y3 y4 y5 y6 y7 y8 y9 B0 B1 B2 B3 B4) (script_Right.j0 (k + 1) y0 y1 y2 y3 y4 y5 y6 y7 y8 y9 B0 B1 B2 B3 B4)) ∧ (∀ y0 y1 y2 y3 y4 y5 y6 y7 y8 y9 B0 B1 B2 B3 B4 B7 B8, LeO (script_Right.l0 k y0 y1 y2 y3 y4 y5 y6 y7 y8 y9 B0 B1 B2 B3 B4 B7 B8) (script_Right.l0 (k + 1) y0 y1 y2 y3 y4 y5 y6 y7 y8 y9 B0 B1 B2 B3 B4 B7 B8))
 | 0 => ⟨fun _ _ _ _ _ _ _ _ _ _ _ _ _ _ _ r h => by simp [script_Right.j0] at h, fun _ _ _ _ _ _ _ _ _ _ _ _ _ _ _ _ _ r h => by simp [script_Right.l0] at h⟩
 | k + 1 => by
  obtain ⟨B5, B6⟩ := script_Right.mono_l k
  refine ⟨?_, ?_⟩
  ·intro y0 y1 y2 y3 y4 y5 y6 y7 y8 y9 B0 B1 B2 B3 B4
   unfold script_Right.j0
   repeat' first
   | (with_reducible exact B5 _ _ _ _ _ _ _ _ _ _ _ _ _ _ _)
   | (with_reducible exact B6 _ _ _ _ _ _ _ _ _ _ _ _ _ _ _ _ _)
   | (with_reducible exact bound_Right.mono _ _ _ _ _ _ _ _ _ _ _ _)
   | (with_reducible exact script_faulty.mono _ _ _ _ _ _ _ _ _ _ _ _ _ _ _)
   | (with_reducible exact script_tick.mono _ _ _ _ _ _ _ _ _ _ _ _ _ _ _ _ _ _)
   | (with_reducible exact LeO.refl _)
   | (with_reducible exact LeO.none _)
   | (with_reducible refine LeO.ite ?_ ?_)
   | (with_reducible refine LeO.bind ?_ (fun _ => ?_))
   | exact B5 _ _ _ _ _ _ _ _ _ _ _ _ _ _ _
   | exact B6 _ _ _ _ _ _ _ _ _ _ _ _ _ _ _ _ _
   | exact bound_Right.mono _ _ _ _ _ _ _ _ _ _ _ _
   | exact script_faulty.mono _ _ _ _ _ _ _ _ _ _ _ _ _ _ _
   | exact script_tick.mono _ _ _ _ _ _ _ _ _ _ _ _ _ _ _ _ _ _
   | exact LeO.none _
   | refine LeO.ite ?_ ?_
   | refine LeO.bind ?_ (fun _ => ?_)
  ·intro y0 y1 y2 y3 y4 y5 y6 y7 y8 y9 B0 B1 B2 B3 B4 B7 B8
   unfold script_Right.l0
   repeat' first
   | (with_reducible exact B5 _ _ _ _ _ _ _ _ _ _ _ _ _ _ _)
   | (with_reducible exact B6 _ _ _ _ _ _ _ _ _ _ _ _ _ _ _ _ _)
   | (with_reducible exact bound_Right.mono _ _ _ _ _ _ _ _ _ _ _ _)
   | (with_reducible exact script_faulty.mono _ _ _ _ _ _ _ _ _ _ _ _ _ _ _)
   | (with_reducible exact script_tick.mono _ _ _ _ _ _ _ _ _ _ _ _ _ _ _ _ _ _)
   | (with_reducible exact LeO.refl _)
   | (with_reducible exact LeO.none _)
   | (with_reducible refine LeO.ite ?_ ?_)
   | (with_reducible refine LeO.bind ?_ (fun _ => ?_))
   | exact B5 _ _ _ _ _ _ _ _ _ _ _ _ _ _ _
   | exact B6 _ _ _ _ _ _ _ _ _ _ _ _ _ _ _ _ _
   | exact bound_Right.mono _ _ _ _ _ _ _ _ _ _ _ _
   | exact script_faulty.mono _ _ _ _ _ _ _ _ _ _ _ _ _ _ _
   | exact script_tick.mono _ _ _ _ _ _ _ _ _ _ _ _ _ _ _ _ _ _
   | exact LeO.none _
   | refine LeO.ite ?_ ?_
   | refine LeO.bind ?_ (fun _ => ?_)
theorem script_Right.mono : ∀ a0 a1 a2 a3 a4 a5 a6 a7 a8 a9 B0 B1 B2 B3 k, LeO (script_Right.f k a0 a1 a2 a3 a4 a5 a6 a7 a8 a9 B0 B1 B2 B3) (script_Right.f (k + 1) a0 a1 a2 a3 a4 a5 a6 a7 a8 a9 B0 B1 B2 B3) := by
 intro a0 a1 a2 a3 a4 a5 a6 a7 a8 a9 B0 B1 B2 B3 k
 obtain ⟨B4, B5⟩ := script_Right.mono_l k
 unfold script_Right.f
 repeat' first
   | (with_reducible exact B4 _ _ _ _ _ _ _ _ _ _ _ _ _ _ _)
   | (with_reducible exact B5 _ _ _ _ _ _ _ _ _ _ _ _ _ _ _ _ _)
   | (with_reducible exact bound_Right.mono _ _ _ _ _ _ _ _ _ _ _ _)
   | (with_reducible exact script_faulty.mono _ _ _ _ _ _ _ _ _ _ _ _ _ _ _)
   | (with_reducible exact script_tick.mono _ _ _ _ _ _ _ _ _ _ _ _ _ _ _ _ _ _)
   | (with_reducible exact LeO.refl _)
   | (with_reducible exact LeO.none _)
   | (with_reducible refine LeO.ite ?_ ?_)
   | (with_reducible refine LeO.bind ?_ (fun _ => ?_))
   | exact B4 _ _ _ _ _ _ _ _ _ _ _ _ _ _ _
   | exact B5 _ _ _ _ _ _ _ _ _ _ _ _ _ _ _ _ _
   | exact bound_Right.mono _ _ _ _ _ _ _ _ _ _ _ _
   | exact script_faulty.mono _ _ _ _ _ _ _ _ _ _ _ _ _ _ _
   | exact script_tick.mono _ _ _ _ _ _ _ _ _ _ _ _ _ _ _ _ _ _
   | exact LeO.none _
   | refine LeO.ite ?_ ?_
   | refine LeO.bind ?_ (fun _ => ?_)
set_option maxHeartbeats 8000000 in
set_option maxRecDepth 100000 in
theorem script_Right.calls (k : Nat) (B9 Bh Bi Bj Bk Bl Bm Bn Bo Bp : Int) (Bs : Option Addr) (Bt : Nat) (B3 : List Int) (Bu : Option Addr) (Bv : Nat) (B7 : List Int) (Bw : Option Addr) (Bx : Nat) (B4 : List ByteArray) (Dc : Option Addr) (By : Nat) (B0 : List (S44)) (r : Int) (w : World) (Eb : Kd.C (Kd.int .i64) w Bs B3.length B3) (Ec : B3.length ≤ Bt) (Ed : Kd.C (Kd.int .i64) w Bu B7.length B7) (Ee : B7.length ≤ Bv) (Ef : Kd.C Kd.string w Bw B4.length B4) (Eg : B4.length ≤ Bx) (Eh : Kd.C k44 w Dc B0.length B0) (Ei : B0.length ≤ By) (h : script_Right.f k B9 Bh Bi Bj Bk Bl Bm Bn Bo Bp B3 B7 B4 B0 = some r) :
  Calls Try.prog 12 #[.agg #[.int .i64 B9, .int .i64 Bh, .int .i64 Bi, .int .i64 Bj, .int .i64 Bk, .int .i64 Bl, .int .i64 Bm, .int .i64 Bn, .int .i64 Bo, .int .i64 Bp, .slice Bs B3.length Bt, .slice Bu B7.length Bv, .slice Bw B4.length Bx, .slice Dc B0.length By]] w fun e w' => e = .returned (.int .i64 r) ∧ Below w.heap.size w w' := by
 have Gb := Try.underlying24
 have Gc := Try.underlying44
 have Bq := am_ Eb
 have Br := am_ Ec
 clear Eb Ec
 have Ej := am_ Ed
 have Ek := am_ Ee
 clear Ed Ee
 have E6 := am_ Ef
 have E7 := am_ Eg
 clear Ef Eg
 have Dr := am_ Eh
 have El := am_ Ei
 clear Eh Ei
 have HB := am_ (Below.refl w.heap.size w)
 have H := h
 unfold script_Right.f at H
 clear h
 obtain ⟨Em, A2, H⟩ := bes_ H
 try dsimp only at H
 by_cases c3 : Em = 0
 ·rw [if_pos c3] at H
  have F0 : (Em == 0) = true := beq_iff_eq.mpr c3
  have F1 : (Em != 0) = false := bne_eq_false_iff_eq.mpr c3
  clear c3
  obtain ⟨Fl, A4, H⟩ := bes_ H
  try dsimp only at H
  by_cases c5 : Fl = true
  ·subst c5
   rw [if_pos rfl] at H
   have Fm := am_ H
   clear H
   go_enter Try.func12, Try.ntmps12
   go_upto_region 6 with (first | ((with_reducible refine gate_load (t := 28) (x := .tmp 1) rfl ?_); refine lrg_ 28 (.tmp 1) Bg 28 (by exact B1.out) Try.underlying28 ?_) | ((with_reducible refine gate_dst (N := 1) rfl ?_); (try (refine gate_guard (by rfl) ?_; dsimp only)); refine bxe_ 1 28 #[.int .i64 B9, .int .i64 Bh, .int .i64 Bi, .int .i64 Bj, .int .i64 Bk, .int .i64 Bl, .int .i64 Bm, .int .i64 Bn, .int .i64 Bo, .int .i64 Bp, .slice Bs B3.length Bt, .slice Bu B7.length Bv, .slice Bw B4.length Bx, .slice Dc B0.length By] ?_; intro Bg hg w7 hbox hb; have B1 := am_ (hbox); have E4 := gwk_ HB hg; have B8 := E4; replace HB := bst_ HB hb; clear hb hbox hg; have Fn := cells_14 B1.out; have Fo := frozen_14 B1.out) | ((with_reducible refine gate_callee (f := 37) rfl ?_); refine gom_ (some 9) Try.func37 (bound_Right.calls k B9 Bh Bi Bj Bk Bl Bm Bn Bo Bp _ _ B3 _ _ (Kd.C_below Bq.out HB.out) Br.out A2.out) ?_; rintro e w9 ⟨rfl, hb⟩; refine ⟨_, rfl, ?_⟩; replace B1 := bkb_ B1 hb; replace HB := bst_ HB hb; (try clear hb); have Fp := cells_14 B1.out; have Fq := frozen_14 B1.out) | ((with_reducible refine gate_callee (f := 38) rfl ?_); refine gom_ (some 14) Try.func38 (script_faulty.calls k B9 Bh Bi Bj Bk Bl Bm Bn Bo Bp _ _ B3 _ _ B7 _ _ B4 _ _ B0 _ _ (Kd.C_below Bq.out HB.out) Br.out (Kd.C_below Ej.out HB.out) Ek.out (Kd.C_below E6.out HB.out) E7.out (Kd.C_below Dr.out HB.out) El.out A4.out) ?_; rintro e w11 ⟨rfl, hb⟩; refine ⟨_, rfl, ?_⟩; replace B1 := bkb_ B1 hb; replace HB := bst_ HB hb; (try clear hb)))
   (try simp only [Act.put, zs_])
   go_cut [34] (fun v34 wc => ∃ (kq : Nat) (Ea : Bool), v34 = .bool Ea ∧ Aside0 (script_Right.j0 kq Ea B9 Bh Bi Bj Bk Bl Bm Bn Bo Bp B3 B7 B4 B0 = some r) ∧ Aside0 (kq ≤ k) ∧ Aside0 (wc.heap[Bg]? = some (.cells #[.int .i64 B9, .int .i64 Bh, .int .i64 Bi, .int .i64 Bj, .int .i64 Bk, .int .i64 Bl, .int .i64 Bm, .int .i64 Bn, .int .i64 Bo, .int .i64 Bp, (.slice Bs B3.length Bt), (.slice Bu B7.length Bv), (.slice Bw B4.length Bx), (.slice Dc B0.length By)] 28 (0, 0))) ∧ Aside0 (Below w.heap.size w wc))
   case first =>
    have H := Fm.out
    clear Fm
    by_cases Es : (B4.length : Int) > B9
    ·rw [if_pos Es] at H
     have Dd : decide (B9 < (B4.length : Int)) = true := decide_eq_true Es
     clear Es
     (first | rw [Dd] | (simp only [i64_w, i32_w]; rw [Dd]) | skip)
     have H' := am_ H
     clear H
     have Et := cells_14 B1.out
     have Eu := frozen_14 B1.out
     go_wp2
     go_meet
     case rel => exact ⟨_, (true), (by first | rfl | (simp; done) | (simp [*]; done)), H', ⟨by first | omega | exact Nat.le_refl _⟩, ⟨by (with_reducible repeat (first | apply kn_ | apply kd_ | apply ka_)); exact B1.out⟩, ⟨by repeat (first | (with_reducible first | exact HB.out | apply ba_ | apply bn_ | apply bd_ | refine bs_ ?_ B8.out) | exact HB.out)⟩⟩
    ·rw [if_neg Es] at H
     have Dd : decide (B9 < (B4.length : Int)) = false := decide_eq_false Es
     clear Es
     (first | rw [Dd] | (simp only [i64_w, i32_w]; rw [Dd]) | skip)
     by_cases Ev : (B0.length : Int) > 2000
     ·rw [if_pos Ev] at H
      have En : decide (2000 < (B0.length : Int)) = true := decide_eq_true Ev
      have Eo : decide (2000 < B0.length) = true := decide_eq_true (by omega)
      clear Ev
      have H' := am_ H
      clear H
      have Ew := cells_14 B1.out
      have Ex := frozen_14 B1.out
      go_wp2
      go_meet
      case rel => exact ⟨_, (true), (by first | rfl | (simp; done) | (simp [*]; done)), H', ⟨by first | omega | exact Nat.le_refl _⟩, ⟨by (with_reducible repeat (first | apply kn_ | apply kd_ | apply ka_)); exact B1.out⟩, ⟨by repeat (first | (with_reducible first | exact HB.out | apply ba_ | apply bn_ | apply bd_ | refine bs_ ?_ B8.out) | exact HB.out)⟩⟩
     ·rw [if_neg Ev] at H
      have En : decide (2000 < (B0.length : Int)) = false := decide_eq_false Ev
      have Eo : decide (2000 < B0.length) = false := decide_eq_false (by omega)
      clear Ev
      obtain ⟨Fr, Gd, H⟩ := bes_ H
      try dsimp only at H
      have H' := am_ H
      clear H
      have Ey := cells_14 B1.out
      have Ez := frozen_14 B1.out
      go_wp2_with (first | ((with_reducible refine gate_load (t := 28) (x := .tmp 1) rfl ?_); refine lrg_ 28 (.tmp 1) Bg 28 (by exact B1.out) Try.underlying28 ?_) | (go_at_call 39; (with_reducible refine (script_every_Right1.calls _ _ B4 () _ _ (Kd.C_below E6.out HB.out) E7.out Gd.out).mono ?_); rintro e w18 ⟨rfl, hb⟩; replace B1 := bkb_ B1 hb; replace HB := bst_ HB hb; (try clear hb)))
      go_meet
      case rel => exact ⟨_, (!Fr), (by first | rfl | (simp; done) | (simp [*]; done)), H', ⟨by first | omega | exact Nat.le_refl _⟩, ⟨by (with_reducible repeat (first | apply kn_ | apply kd_ | apply ka_)); exact B1.out⟩, ⟨by repeat (first | (with_reducible first | exact HB.out | apply ba_ | apply bn_ | apply bd_ | refine bs_ ?_ B8.out) | exact HB.out)⟩⟩
   case rest =>
    clear Fm
    try clear c1
    try clear p2
    try clear c3
    try clear F0
    try clear F1
    try clear c5
    try clear Es
    try clear Dd
    try clear Ev
    try clear En
    try clear Eo
    try clear hcz10_0 hcz10_1 hcz10_2 hcz10_3 hcz10_4 hcz10_5 hcz10_6 hcz10_7 hcz10_8 hcz10_9 hcz10_10 hcz10_11 hcz10_12 hcz10_13
    try clear Et
    try clear Ew
    try clear Ey
    try clear hcz8_0 hcz8_1 hcz8_2 hcz8_3 hcz8_4 hcz8_5 hcz8_6 hcz8_7 hcz8_8 hcz8_9 hcz8_10 hcz8_11 hcz8_12 hcz8_13
    try clear hfz10_0 hfz10_1 hfz10_2 hfz10_3 hfz10_4 hfz10_5 hfz10_6 hfz10_7 hfz10_8 hfz10_9 hfz10_10 hfz10_11 hfz10_12 hfz10_13
    try clear Eu
    try clear Ex
    try clear Ez
    try clear hfz8_0 hfz8_1 hfz8_2 hfz8_3 hfz8_4 hfz8_5 hfz8_6 hfz8_7 hfz8_8 hfz8_9 hfz8_10 hfz8_11 hfz8_12 hfz8_13
    obtain ⟨kq, Ea, rfl, HA, Fx, B1, HB⟩ := hcut
    cases kq with
    | zero => exact absurd HA.out (by simp [script_Right.j0])
    | succ Fy =>
     have H := HA.out
     clear HA
     simp only [script_Right.j0] at H
     by_cases F5 : Ea = true
     ·subst F5
      rw [if_pos rfl] at H
      obtain rfl := Option.some.inj H
      go_wp2
      go_ret
      exact ⟨by first | rfl | (simp [*] <;> rfl), by repeat (first | (with_reducible first | exact HB.out | apply ba_ | apply bn_ | apply bd_ | refine bs_ ?_ B8.out) | exact HB.out)⟩
     ·replace F5 := Bool.eq_false_iff.mpr F5
      subst F5
      rw [if_neg (show ¬ (false = true) by decide)] at H
      have H' := am_ H
      clear H
      have F6 := cells_14 B1.out
      have F7 := frozen_14 B1.out
      go_wp2
      go_loopg [38] Fy (fun kq v38 w' => ∃ (B2 : Int), v38 = .int .i64 B2 ∧ Aside0 (script_Right.l0 kq B0 (B0.length : Int) B2 B9 Bh Bi Bj Bk Bl Bm Bn Bo Bp B3 B7 B4 B0 = some r) ∧ Aside0 (kq ≤ Fy) ∧ Aside0 (w'.heap[Bg]? = some (.cells #[.int .i64 B9, .int .i64 Bh, .int .i64 Bi, .int .i64 Bj, .int .i64 Bk, .int .i64 Bl, .int .i64 Bm, .int .i64 Bn, .int .i64 Bo, .int .i64 Bp, (.slice Bs B3.length Bt), (.slice Bu B7.length Bv), (.slice Bw B4.length Bx), (.slice Dc B0.length By)] 28 (0, 0))) ∧ Aside0 (Below w.heap.size w w'))
      case atStart => exact ⟨(0), (by first | rfl | (simp; done) | (simp [*]; done)), H', ⟨Nat.le_refl _⟩, ⟨by (with_reducible repeat (first | apply kn_ | apply kd_ | apply ka_)); exact B1.out⟩, ⟨by repeat (first | (with_reducible first | exact HB.out | apply ba_ | apply bn_ | apply bd_ | refine bs_ ?_ B8.out) | exact HB.out)⟩⟩
      case round =>
       clear H'
       try clear c1
       try clear p2
       try clear c3
       try clear F0
       try clear F1
       try clear c5
       try clear Es
       try clear Dd
       try clear Ev
       try clear En
       try clear Eo
       try clear F5
       try clear hcz10_0 hcz10_1 hcz10_2 hcz10_3 hcz10_4 hcz10_5 hcz10_6 hcz10_7 hcz10_8 hcz10_9 hcz10_10 hcz10_11 hcz10_12 hcz10_13
       try clear Et
       try clear Ew
       try clear Ey
       try clear F6
       try clear hcz8_0 hcz8_1 hcz8_2 hcz8_3 hcz8_4 hcz8_5 hcz8_6 hcz8_7 hcz8_8 hcz8_9 hcz8_10 hcz8_11 hcz8_12 hcz8_13
       try clear hfz10_0 hfz10_1 hfz10_2 hfz10_3 hfz10_4 hfz10_5 hfz10_6 hfz10_7 hfz10_8 hfz10_9 hfz10_10 hfz10_11 hfz10_12 hfz10_13
       try clear Eu
       try clear Ex
       try clear Ez
       try clear F7
       try clear hfz8_0 hfz8_1 hfz8_2 hfz8_3 hfz8_4 hfz8_5 hfz8_6 hfz8_7 hfz8_8 hfz8_9 hfz8_10 hfz8_11 hfz8_12 hfz8_13
       try clear p2
       obtain ⟨B2, rfl, HA, Fz, B1, HB⟩ := hrel
       cases gk with
       | zero => exact absurd HA.out (by simp [script_Right.l0])
       | succ k2 =>
        have H := HA.out
        clear HA
        simp only [script_Right.l0] at H
        by_cases F4 : B2 < (B0.length : Int)
        ·rw [if_pos F4] at H
         have F8 : decide (B2 < (B0.length : Int)) = true := decide_eq_true F4
         clear F4
         by_cases Fe : 0 ≤ B2
         ·rw [if_pos Fe] at H
          have G0 : decide (0 ≤ B2) = true := decide_eq_true Fe
          clear Fe
          by_cases Ff : B2 < (B0.length : Int)
          ·rw [if_pos Ff] at H
           have G1 : decide (B2 < (B0.length : Int)) = true := decide_eq_true Ff
           clear Ff
           obtain ⟨Ep, G2, H⟩ := bes_ H
           try dsimp only at H
           by_cases F2 : Ep = 0
           ·rw [if_pos F2] at H
            have F9 : (Ep == 0) = true := beq_iff_eq.mpr F2
            have Fa : (Ep != 0) = false := bne_eq_false_iff_eq.mpr F2
            clear F2
            have H' := am_ H
            clear H
            have E8 : 0 ≤ (B2 : Int) := of_decide_eq_true (by first | (with_reducible assumption) | assumption)
            have E9 : B2 < (B0.length : Int) := of_decide_eq_true (by first | (with_reducible assumption) | assumption)
            obtain ⟨Eq, De, Df, Dg, Dh, Di, Dj, Dk, Dl, Dm, Dn, Do, Dp, F3, Ba, Bb, Bc, Bd, Be, Bf, Bz, D0, D1, D2, D3, D4, D5, D6, D7, D8, D9, Da⟩ := at_T44 Dr.out B2 E8 E9
            cases F3
            replace Ba := (HB.out.cell (World.block_lt_of_cell? w _ Ba)).trans Ba
            replace Bb := (HB.out.cell (World.block_lt_of_cell? w _ Bb)).trans Bb
            replace Bc := (HB.out.cell (World.block_lt_of_cell? w _ Bc)).trans Bc
            replace Bd := (HB.out.cell (World.block_lt_of_cell? w _ Bd)).trans Bd
            replace Be := (HB.out.cell (World.block_lt_of_cell? w _ Be)).trans Be
            replace Bf := (HB.out.cell (World.block_lt_of_cell? w _ Bf)).trans Bf
            have Ds := am_ D0
            have Dt := am_ Bz
            clear D0 Bz
            have Du := am_ D2
            have Dv := am_ D1
            clear D2 D1
            have Dw := am_ D4
            have Dx := am_ D3
            clear D4 D3
            have Dy := am_ D6
            have Dz := am_ D5
            clear D6 D5
            have E0 := am_ D8
            have E1 := am_ D7
            clear D8 D7
            have E2 := am_ Da
            have E3 := am_ D9
            clear Da D9
            replace E8 := eq_true E8
            replace E9 := eq_true E9
            go_wp2_with (first | ((with_reducible refine gate_load (t := 28) (x := .tmp 1) rfl ?_); refine lrg_ 28 (.tmp 1) Bg 28 (by exact B1.out) Try.underlying28 ?_) | ((with_reducible refine gate_dst (N := 5) rfl ?_); (try (refine gate_guard (by rfl) ?_; dsimp only)); refine bxe_ 5 44 #[.slice none 0 0, .slice none 0 0, .slice none 0 0, .slice none 0 0, .slice none 0 0, .slice none 0 0] ?_; intro E5 hg w26 hbox hb; have B6 := am_ (hbox); have Er := gwk_ HB hg; have Dq := Er; replace HB := bst_ HB hb; have B5 := nbk_ B1 hg; have Db := nbs_ B5; replace B1 := bkb_ B1 hb; clear hb hbox hg) | ((with_reducible refine gate_store (t := 44) (p := 5) rfl ?_); refine row_store_event (t := 44) (p := 5) (v := ?vo_w27) ?hgd ?ho ?hn E5 #[.slice De ((rd_T44 B0 B2).f0).length Df, .slice Dg ((rd_T44 B0 B2).f1).length Dh, .slice Di ((rd_T44 B0 B2).f2).length Dj, .slice Dk ((rd_T44 B0 B2).f3).length Dl, .slice Dm ((rd_T44 B0 B2).f4).length Dn, .slice Do ((rd_T44 B0 B2).f5).length Dp] ?hx ?hy 44 #[.slice none 0 0, .slice none 0 0, .slice none 0 0, .slice none 0 0, .slice none 0 0, .slice none 0 0] ?hg ?hi ?hold ?h1 ?_; (case hgd => rfl); (case ho => rfl); (case hn => rfl); (case hx => rfl); (case hy => rfl); (case hg => exact (by (with_reducible repeat (first | apply kn_ | apply kd_ | apply ka_)); exact B6.out)); (case hi => kernel_rfl); (case hold => rfl); (case h1 => (first | kernel_rfl | simp [Value.oneCell'])); intro w27 hw; have Fb : Aside0 (w27.heap[Bg]? = some (.cells #[.int .i64 B9, .int .i64 Bh, .int .i64 Bi, .int .i64 Bj, .int .i64 Bk, .int .i64 Bl, .int .i64 Bm, .int .i64 Bn, .int .i64 Bo, .int .i64 Bp, .slice Bs B3.length Bt, .slice Bu B7.length Bv, .slice Bw B4.length Bx, .slice (some Eq) B0.length By] 28 (0, 0))) := ⟨(by rw [hw]; exact (by (with_reducible repeat (first | apply kn_ | apply kd_ | apply ka_)); refine blk_farc ?_ B5.out; (with_reducible repeat (first | apply kn_ | apply kd_ | apply ka_)); exact B1.out))⟩; have Fc : Aside0 (w27.heap[E5]? = some (.cells #[.slice De ((rd_T44 B0 B2).f0).length Df, .slice Dg ((rd_T44 B0 B2).f1).length Dh, .slice Di ((rd_T44 B0 B2).f2).length Dj, .slice Dk ((rd_T44 B0 B2).f3).length Dl, .slice Dm ((rd_T44 B0 B2).f4).length Dn, .slice Do ((rd_T44 B0 B2).f5).length Dp] 44 (0, 0))) := ⟨(by rw [hw]; exact (by (with_reducible repeat (first | apply kn_ | apply kd_ | apply ka_)); refine setRow_heap _ _ #[.slice none 0 0, .slice none 0 0, .slice none 0 0, .slice none 0 0, .slice none 0 0, .slice none 0 0] _ 44 (0, 0) ?_; (with_reducible repeat (first | apply kn_ | apply kd_ | apply ka_)); exact B6.out))⟩; have Fd : Aside0 (Below w.heap.size w w27) := ⟨(by rw [hw]; exact (by repeat (first | (with_reducible first | exact HB.out | refine below_setc ?_ Dq.out | apply below_alloc | apply pw_below_drewN | apply below_drew1 | refine bs_ ?_ B8.out | refine bs_ ?_ Dq.out) | exact HB.out)))⟩; clear hw; clear B1; clear B6; clear HB; have B1 := Fb; have B6 := Fc; have HB := Fd; clear Fb Fc Fd; have G3 := B5.out; have G4 := Db.out; have Fs := cells_14 B1.out; have Ft := frozen_14 B1.out; have G5 := cells_6 B6.out; have G6 := frozen_6 B6.out) | ((with_reducible refine gate_callee (f := 41) rfl ?_); refine gom_ (some 45) Try.func41 (script_tick.calls k2 B9 Bh Bi Bj Bk Bl Bm Bn Bo Bp _ _ B3 _ _ ((rd_T44 B0 B2).f0) _ _ ((rd_T44 B0 B2).f1) _ _ ((rd_T44 B0 B2).f2) _ _ ((rd_T44 B0 B2).f3) _ _ ((rd_T44 B0 B2).f4) _ _ ((rd_T44 B0 B2).f5) _ _ (Kd.C_below Bq.out HB.out) Br.out ?side3 ?side4 ?side5 ?side6 ?side7 ?side8 ?side9 ?side10 ?side11 ?side12 ?side13 ?side14 G2.out) ?_; (case side3 => exact (Kd.C_below Ds.out HB.out)); (case side4 => exact Dt.out); (case side5 => exact (Kd.C_below Du.out HB.out)); (case side6 => exact Dv.out); (case side7 => exact (Kd.C_below Dw.out HB.out)); (case side8 => exact Dx.out); (case side9 => exact (Kd.C_below Dy.out HB.out)); (case side10 => exact Dz.out); (case side11 => exact (Kd.C_below E0.out HB.out)); (case side12 => exact E1.out); (case side13 => exact (Kd.C_below E2.out HB.out)); (case side14 => exact E3.out); rintro e w31 ⟨rfl, hb⟩; refine ⟨_, rfl, ?_⟩; replace B1 := bkb_ B1 hb; replace B6 := bkb_ B6 hb; replace HB := bst_ HB hb; (try clear hb)))
            go_roundg k2
            case measure => have := Fx.out; have := Fz.out; omega
            case rel => exact ⟨(wrap64 (B2 + 1)), (by first | rfl | (simp; done) | (simp [*]; done)), H', ⟨by have := Fx.out; have := Fz.out; omega⟩, ⟨by (with_reducible repeat (first | apply kn_ | apply kd_ | apply ka_)); exact B1.out⟩, ⟨by repeat (first | (with_reducible first | exact HB.out | apply ba_ | apply bn_ | apply bd_ | refine bs_ ?_ B8.out | refine bs_ ?_ Dq.out) | exact HB.out)⟩⟩
           ·rw [if_neg F2] at H
            have F9 : (Ep == 0) = false := beq_eq_false_iff_ne.mpr F2
            have Fa : (Ep != 0) = true := bne_iff_ne.mpr F2
            obtain rfl := Option.some.inj H
            have E8 : 0 ≤ (B2 : Int) := of_decide_eq_true (by first | (with_reducible assumption) | assumption)
            have E9 : B2 < (B0.length : Int) := of_decide_eq_true (by first | (with_reducible assumption) | assumption)
            obtain ⟨Eq, De, Df, Dg, Dh, Di, Dj, Dk, Dl, Dm, Dn, Do, Dp, F3, Ba, Bb, Bc, Bd, Be, Bf, Bz, D0, D1, D2, D3, D4, D5, D6, D7, D8, D9, Da⟩ := at_T44 Dr.out B2 E8 E9
            cases F3
            replace Ba := (HB.out.cell (World.block_lt_of_cell? w _ Ba)).trans Ba
            replace Bb := (HB.out.cell (World.block_lt_of_cell? w _ Bb)).trans Bb
            replace Bc := (HB.out.cell (World.block_lt_of_cell? w _ Bc)).trans Bc
            replace Bd := (HB.out.cell (World.block_lt_of_cell? w _ Bd)).trans Bd
            replace Be := (HB.out.cell (World.block_lt_of_cell? w _ Be)).trans Be
            replace Bf := (HB.out.cell (World.block_lt_of_cell? w _ Bf)).trans Bf
            have Ds := am_ D0
            have Dt := am_ Bz
            clear D0 Bz
            have Du := am_ D2
            have Dv := am_ D1
            clear D2 D1
            have Dw := am_ D4
            have Dx := am_ D3
            clear D4 D3
            have Dy := am_ D6
            have Dz := am_ D5
            clear D6 D5
            have E0 := am_ D8
            have E1 := am_ D7
            clear D8 D7
            have E2 := am_ Da
            have E3 := am_ D9
            clear Da D9
            replace E8 := eq_true E8
            replace E9 := eq_true E9
            go_wp2_with (first | ((with_reducible refine gate_load (t := 28) (x := .tmp 1) rfl ?_); refine lrg_ 28 (.tmp 1) Bg 28 (by exact B1.out) Try.underlying28 ?_) | ((with_reducible refine gate_dst (N := 5) rfl ?_); (try (refine gate_guard (by rfl) ?_; dsimp only)); refine bxe_ 5 44 #[.slice none 0 0, .slice none 0 0, .slice none 0 0, .slice none 0 0, .slice none 0 0, .slice none 0 0] ?_; intro E5 hg w32 hbox hb; have B6 := am_ (hbox); have Er := gwk_ HB hg; have Dq := Er; replace HB := bst_ HB hb; have B5 := nbk_ B1 hg; have Db := nbs_ B5; replace B1 := bkb_ B1 hb; clear hb hbox hg) | ((with_reducible refine gate_store (t := 44) (p := 5) rfl ?_); refine row_store_event (t := 44) (p := 5) (v := ?vo_w33) ?hgd ?ho ?hn E5 #[.slice De ((rd_T44 B0 B2).f0).length Df, .slice Dg ((rd_T44 B0 B2).f1).length Dh, .slice Di ((rd_T44 B0 B2).f2).length Dj, .slice Dk ((rd_T44 B0 B2).f3).length Dl, .slice Dm ((rd_T44 B0 B2).f4).length Dn, .slice Do ((rd_T44 B0 B2).f5).length Dp] ?hx ?hy 44 #[.slice none 0 0, .slice none 0 0, .slice none 0 0, .slice none 0 0, .slice none 0 0, .slice none 0 0] ?hg ?hi ?hold ?h1 ?_; (case hgd => rfl); (case ho => rfl); (case hn => rfl); (case hx => rfl); (case hy => rfl); (case hg => exact (by (with_reducible repeat (first | apply kn_ | apply kd_ | apply ka_)); exact B6.out)); (case hi => kernel_rfl); (case hold => rfl); (case h1 => (first | kernel_rfl | simp [Value.oneCell'])); intro w33 hw; have Fb : Aside0 (w33.heap[Bg]? = some (.cells #[.int .i64 B9, .int .i64 Bh, .int .i64 Bi, .int .i64 Bj, .int .i64 Bk, .int .i64 Bl, .int .i64 Bm, .int .i64 Bn, .int .i64 Bo, .int .i64 Bp, .slice Bs B3.length Bt, .slice Bu B7.length Bv, .slice Bw B4.length Bx, .slice (some Eq) B0.length By] 28 (0, 0))) := ⟨(by rw [hw]; exact (by (with_reducible repeat (first | apply kn_ | apply kd_ | apply ka_)); refine blk_farc ?_ B5.out; (with_reducible repeat (first | apply kn_ | apply kd_ | apply ka_)); exact B1.out))⟩; have Fc : Aside0 (w33.heap[E5]? = some (.cells #[.slice De ((rd_T44 B0 B2).f0).length Df, .slice Dg ((rd_T44 B0 B2).f1).length Dh, .slice Di ((rd_T44 B0 B2).f2).length Dj, .slice Dk ((rd_T44 B0 B2).f3).length Dl, .slice Dm ((rd_T44 B0 B2).f4).length Dn, .slice Do ((rd_T44 B0 B2).f5).length Dp] 44 (0, 0))) := ⟨(by rw [hw]; exact (by (with_reducible repeat (first | apply kn_ | apply kd_ | apply ka_)); refine setRow_heap _ _ #[.slice none 0 0, .slice none 0 0, .slice none 0 0, .slice none 0 0, .slice none 0 0, .slice none 0 0] _ 44 (0, 0) ?_; (with_reducible repeat (first | apply kn_ | apply kd_ | apply ka_)); exact B6.out))⟩; have Fd : Aside0 (Below w.heap.size w w33) := ⟨(by rw [hw]; exact (by repeat (first | (with_reducible first | exact HB.out | refine below_setc ?_ Dq.out | apply below_alloc | apply pw_below_drewN | apply below_drew1 | refine bs_ ?_ B8.out | refine bs_ ?_ Dq.out) | exact HB.out)))⟩; clear hw; clear B1; clear B6; clear HB; have B1 := Fb; have B6 := Fc; have HB := Fd; clear Fb Fc Fd; have G7 := B5.out; have G8 := Db.out; have Fu := cells_14 B1.out; have Fv := frozen_14 B1.out; have G9 := cells_6 B6.out; have Ga := frozen_6 B6.out) | ((with_reducible refine gate_callee (f := 41) rfl ?_); refine gom_ (some 45) Try.func41 (script_tick.calls k2 B9 Bh Bi Bj Bk Bl Bm Bn Bo Bp _ _ B3 _ _ ((rd_T44 B0 B2).f0) _ _ ((rd_T44 B0 B2).f1) _ _ ((rd_T44 B0 B2).f2) _ _ ((rd_T44 B0 B2).f3) _ _ ((rd_T44 B0 B2).f4) _ _ ((rd_T44 B0 B2).f5) _ _ (Kd.C_below Bq.out HB.out) Br.out ?side3 ?side4 ?side5 ?side6 ?side7 ?side8 ?side9 ?side10 ?side11 ?side12 ?side13 ?side14 G2.out) ?_; (case side3 => exact (Kd.C_below Ds.out HB.out)); (case side4 => exact Dt.out); (case side5 => exact (Kd.C_below Du.out HB.out)); (case side6 => exact Dv.out); (case side7 => exact (Kd.C_below Dw.out HB.out)); (case side8 => exact Dx.out); (case side9 => exact (Kd.C_below Dy.out HB.out)); (case side10 => exact Dz.out); (case side11 => exact (Kd.C_below E0.out HB.out)); (case side12 => exact E1.out); (case side13 => exact (Kd.C_below E2.out HB.out)); (case side14 => exact E3.out); rintro e w37 ⟨rfl, hb⟩; refine ⟨_, rfl, ?_⟩; replace B1 := bkb_ B1 hb; replace B6 := bkb_ B6 hb; replace HB := bst_ HB hb; (try clear hb)))
            go_ret
            exact ⟨by first | rfl | (simp [*] <;> rfl), by repeat (first | (with_reducible first | exact HB.out | apply ba_ | apply bn_ | apply bd_ | refine bs_ ?_ B8.out | refine bs_ ?_ Dq.out) | exact HB.out)⟩
          ·rw [if_neg Ff] at H
           exact absurd H (by simp)
         ·rw [if_neg Fe] at H
          exact absurd H (by simp)
        ·rw [if_neg F4] at H
         have F8 : decide (B2 < (B0.length : Int)) = false := decide_eq_false F4
         clear F4
         obtain rfl := Option.some.inj H
         go_wp2
         go_ret
         exact ⟨by first | rfl | (simp [*] <;> rfl), by repeat (first | (with_reducible first | exact HB.out | apply ba_ | apply bn_ | apply bd_ | refine bs_ ?_ B8.out) | exact HB.out)⟩
  ·replace c5 := Bool.eq_false_iff.mpr c5
   subst c5
   rw [if_neg (show ¬ (false = true) by decide)] at H
   obtain rfl := Option.some.inj H
   go_enter Try.func12, Try.ntmps12
   go_wp2_with (first | ((with_reducible refine gate_load (t := 28) (x := .tmp 1) rfl ?_); refine lrg_ 28 (.tmp 1) Bg 28 (by exact B1.out) Try.underlying28 ?_) | ((with_reducible refine gate_dst (N := 1) rfl ?_); (try (refine gate_guard (by rfl) ?_; dsimp only)); refine bxe_ 1 28 #[.int .i64 B9, .int .i64 Bh, .int .i64 Bi, .int .i64 Bj, .int .i64 Bk, .int .i64 Bl, .int .i64 Bm, .int .i64 Bn, .int .i64 Bo, .int .i64 Bp, .slice Bs B3.length Bt, .slice Bu B7.length Bv, .slice Bw B4.length Bx, .slice Dc B0.length By] ?_; intro Bg hg w38 hbox hb; have B1 := am_ (hbox); have E4 := gwk_ HB hg; have B8 := E4; replace HB := bst_ HB hb; clear hb hbox hg; have Fw := cells_14 B1.out; have Fg := frozen_14 B1.out) | ((with_reducible refine gate_callee (f := 37) rfl ?_); refine gom_ (some 9) Try.func37 (bound_Right.calls k B9 Bh Bi Bj Bk Bl Bm Bn Bo Bp _ _ B3 _ _ (Kd.C_below Bq.out HB.out) Br.out A2.out) ?_; rintro e w40 ⟨rfl, hb⟩; refine ⟨_, rfl, ?_⟩; replace B1 := bkb_ B1 hb; replace HB := bst_ HB hb; (try clear hb); have Fh := cells_14 B1.out; have Fi := frozen_14 B1.out) | ((with_reducible refine gate_callee (f := 38) rfl ?_); refine gom_ (some 14) Try.func38 (script_faulty.calls k B9 Bh Bi Bj Bk Bl Bm Bn Bo Bp _ _ B3 _ _ B7 _ _ B4 _ _ B0 _ _ (Kd.C_below Bq.out HB.out) Br.out (Kd.C_below Ej.out HB.out) Ek.out (Kd.C_below E6.out HB.out) E7.out (Kd.C_below Dr.out HB.out) El.out A4.out) ?_; rintro e w42 ⟨rfl, hb⟩; refine ⟨_, rfl, ?_⟩; replace B1 := bkb_ B1 hb; replace HB := bst_ HB hb; (try clear hb)))
   go_ret
   exact ⟨by first | rfl | (simp [*] <;> rfl), by repeat (first | (with_reducible first | exact HB.out | apply ba_ | apply bn_ | apply bd_ | refine bs_ ?_ B8.out) | exact HB.out)⟩
 ·rw [if_neg c3] at H
  have F0 : (Em == 0) = false := beq_eq_false_iff_ne.mpr c3
  have F1 : (Em != 0) = true := bne_iff_ne.mpr c3
  obtain rfl := Option.some.inj H
  go_enter Try.func12, Try.ntmps12
  go_wp2_with (first | ((with_reducible refine gate_load (t := 28) (x := .tmp 1) rfl ?_); refine lrg_ 28 (.tmp 1) Bg 28 (by exact B1.out) Try.underlying28 ?_) | ((with_reducible refine gate_dst (N := 1) rfl ?_); (try (refine gate_guard (by rfl) ?_; dsimp only)); refine bxe_ 1 28 #[.int .i64 B9, .int .i64 Bh, .int .i64 Bi, .int .i64 Bj, .int .i64 Bk, .int .i64 Bl, .int .i64 Bm, .int .i64 Bn, .int .i64 Bo, .int .i64 Bp, .slice Bs B3.length Bt, .slice Bu B7.length Bv, .slice Bw B4.length Bx, .slice Dc B0.length By] ?_; intro Bg hg w43 hbox hb; have B1 := am_ (hbox); have E4 := gwk_ HB hg; have B8 := E4; replace HB := bst_ HB hb; clear hb hbox hg; have Fj := cells_14 B1.out; have Fk := frozen_14 B1.out) | ((with_reducible refine gate_callee (f := 37) rfl ?_); refine gom_ (some 9) Try.func37 (bound_Right.calls k B9 Bh Bi Bj Bk Bl Bm Bn Bo Bp _ _ B3 _ _ (Kd.C_below Bq.out HB.out) Br.out A2.out) ?_; rintro e w45 ⟨rfl, hb⟩; refine ⟨_, rfl, ?_⟩; replace B1 := bkb_ B1 hb; replace HB := bst_ HB hb; (try clear hb)))
  go_ret
  exact ⟨by first | rfl | (simp [*] <;> rfl), by repeat (first | (with_reducible first | exact HB.out | apply ba_ | apply bn_ | apply bd_ | refine bs_ ?_ B8.out) | exact HB.out)⟩
def script_at.f (B4 B5 B6 B7 B8 B9 Ba Bb Bc Bd : Int) (B1 B2 : List Int) (B3 : List ByteArray) (B0 : List (S44)) (a1 : Int) : Option (List Int × List Int × (List (S74)) × (List (S48)) × (List (S74)) × (List (S81)) × Bool) := if a1 < 0 then (some (([] : List Int), ([] : List Int), ([] : List (S74)), ([] : List (S48)), ([] : List (S74)), ([] : List (S81)), false)) else (if a1 ≥ (B0.length : Int) then (some (([] : List Int), ([] : List Int), ([] : List (S74)), ([] : List (S48)), ([] : List (S74)), ([] : List (S81)), false)) else (if 0 ≤ a1 then (if a1 < (B0.length : Int) then (some ((rd_T44 B0 a1).f0, (rd_T44 B0 a1).f1, (rd_T44 B0 a1).f2, (rd_T44 B0 a1).f3, (rd_T44 B0 a1).f4, (rd_T44 B0 a1).f5, true)) else (none)) else (none)))
set_option maxHeartbeats 8000000 in
set_option maxRecDepth 100000 in
theorem script_at.calls (Dn Do Dp Dq Dr Ds Dt Du Dv Dw : Int) (Bg : Option Addr) (Bh : Nat) (B9 : List Int) (Bi : Option Addr) (Bj : Nat) (Ba : List Int) (Bk : Option Addr) (Bl : Nat) (Bb : List ByteArray) (B5 : Nat → Prop) (Be : Option Addr) (B8 : Nat) (B0 : List (S44)) (a1 : Int) (r1 r2 : List Int) (r3 : List (S74)) (r4 : List (S48)) (r5 : List (S74)) (r6 : List (S81)) (r7 : Bool) (w : World) (Eb : Kd.C (Kd.int .i64) w Bg B9.length B9) (Ec : B9.length ≤ Bh) (Ed : Kd.C (Kd.int .i64) w Bi Ba.length Ba) (Ee : Ba.length ≤ Bj) (Ef : Kd.C Kd.string w Bk Bb.length Bb) (Eg : Bb.length ≤ Bl) (Eu : Kd.V k44 44 w w.heap.size (fun k_ => B5 k_) (.slice Be B0.length B8) B0) (h : script_at.f Dn Do Dp Dq Dr Ds Dt Du Dv Dw B9 Ba Bb B0 a1 = some (r1, r2, r3, r4, r5, r6, r7)) :
  Calls Try.prog 46 #[.agg #[.int .i64 Dn, .int .i64 Do, .int .i64 Dp, .int .i64 Dq, .int .i64 Dr, .int .i64 Ds, .int .i64 Dt, .int .i64 Du, .int .i64 Dv, .int .i64 Dw, .slice Bg B9.length Bh, .slice Bi Ba.length Bj, .slice Bk Bb.length Bl, .slice Be B0.length B8], .int .i64 a1] w fun e w' => ∃ G0 G1 G2 G3 G4 G5 : Value, e = .returned (.tuple #[.agg #[G0, G1, G2, G3, G4, G5], .bool r7]) ∧ Kd.V (Kd.int .i64) 3 w' w.heap.size (fun k_ => (B5 k_ ∨ w.heap.size ≤ k_)) G0 r1 ∧ Kd.V (Kd.int .i64) 3 w' w.heap.size (fun k_ => (B5 k_ ∨ w.heap.size ≤ k_)) G1 r2 ∧ Kd.V k74 74 w' w.heap.size (fun k_ => (B5 k_ ∨ w.heap.size ≤ k_)) G2 r3 ∧ Kd.V k48 48 w' w.heap.size (fun k_ => (B5 k_ ∨ w.heap.size ≤ k_)) G3 r4 ∧ Kd.V k74 74 w' w.heap.size (fun k_ => (B5 k_ ∨ w.heap.size ≤ k_)) G4 r5 ∧ Kd.V k81 81 w' w.heap.size (fun k_ => (B5 k_ ∨ w.heap.size ≤ k_)) G5 r6 ∧ Below w.heap.size w w' := by
 have Gj := Try.underlying44
 have Fn := am_ Eb
 have Fo := am_ Ec
 clear Eb Ec
 have Fp := am_ Ed
 have Fq := am_ Ee
 clear Ed Ee
 have Fr := am_ Ef
 have Fs := am_ Eg
 clear Ef Eg
 have B1 := am_ (show Kd.V k44 44 w w.heap.size (fun k_ => (B5 k_ ∨ w.heap.size ≤ k_)) (.slice Be B0.length B8) B0 from Kd.V_mono Eu (fun k_ hk => .inl hk))
 have HB := am_ (Below.refl w.heap.size w)
 have H := h
 unfold script_at.f at H
 clear h
 by_cases c3 : a1 < 0
 ·rw [if_pos c3] at H
  have Ft : decide (a1 < 0) = true := decide_eq_true c3
  clear c3
  simp only [Option.some.injEq, Prod.mk.injEq] at H
  obtain ⟨rfl, rfl, rfl, rfl, rfl, rfl, rfl⟩ := H
  go_enter Try.func46, Try.ntmps46
  go_wp2_with (first | ((with_reducible refine gate_load (t := 28) (x := .tmp 2) rfl ?_); refine lrg_ 28 (.tmp 2) B6 28 (by exact B3.out) Try.underlying28 ?_) | ((with_reducible refine gate_dst (N := 2) rfl ?_); (try (refine gate_guard (by rfl) ?_; dsimp only)); refine bxe_ 2 28 #[.int .i64 Dn, .int .i64 Do, .int .i64 Dp, .int .i64 Dq, .int .i64 Dr, .int .i64 Ds, .int .i64 Dt, .int .i64 Du, .int .i64 Dv, .int .i64 Dw, .slice Bg B9.length Bh, .slice Bi Ba.length Bj, .slice Bk Bb.length Bl, .slice Be B0.length B8] ?_; intro B6 hg w4 hbox hb; replace B1 := am_ (Kd.V_below (Kd.V_elderB (by (with_reducible repeat (first | apply Kd.V_alloc | apply Kd.V_drewN | apply Kd.V_drew)); exact B1.out) B6 (Nat.le_of_eq hg.symm)) hb); have B3 := am_ (hbox); have Dx := gwk_ HB hg; have Bm := Dx; replace HB := bst_ HB hb; clear hb hbox hg) | ((with_reducible refine gate_dst (N := 4) rfl ?_); (try (refine gate_guard (by rfl) ?_; dsimp only)); refine bxe_ 4 44 #[.slice none 0 0, .slice none 0 0, .slice none 0 0, .slice none 0 0, .slice none 0 0, .slice none 0 0] ?_; intro B2 hg w5 hbox hb; replace B1 := am_ (Kd.V_below (Kd.V_elderB (by (with_reducible repeat (first | apply Kd.V_alloc | apply Kd.V_drewN | apply Kd.V_drew)); exact B1.out) B2 (Nat.le_of_eq hg.symm)) hb); have B7 := am_ (hbox); have Dy := gwk_ HB hg; have Bc := Dy; replace HB := bst_ HB hb; have B4 := nbk_ B3 hg; have Bd := nbs_ B4; replace B3 := bkb_ B3 hb; clear hb hbox hg) | ((with_reducible refine gate_store (t := 44) (p := 4) rfl ?_); refine row_store_event (t := 44) (p := 4) (v := ?vo_w6) ?hgd ?ho ?hn B2 #[.slice none 0 0, .slice none 0 0, .slice none 0 0, .slice none 0 0, .slice none 0 0, .slice none 0 0] ?hx ?hy 44 #[.slice none 0 0, .slice none 0 0, .slice none 0 0, .slice none 0 0, .slice none 0 0, .slice none 0 0] ?hg ?hi ?hold ?h1 ?_; (case hgd => rfl); (case ho => rfl); (case hn => rfl); (case hx => rfl); (case hy => rfl); (case hg => exact (by (with_reducible repeat (first | apply kn_ | apply kd_ | apply ka_)); exact B7.out)); (case hi => kernel_rfl); (case hold => rfl); (case h1 => (first | kernel_rfl | simp [Value.oneCell'])); intro w6 hw; have Ep : Aside0 (Kd.V k44 44 w6 w.heap.size (fun k_ => (B5 k_ ∨ w.heap.size ≤ k_) ∧ k_ ≠ B6 ∧ k_ ≠ B2) (.slice Be B0.length B8) B0) := ⟨(by rw [hw]; exact (by (with_reducible repeat (first | apply Kd.V_alloc | apply Kd.V_drewN | apply Kd.V_drew)); exact Kd.V_mono (Kd.V_farc (Kd.V_mono B1.out (fun k_ hk => (⟨hk, hk.2⟩ : _ ∧ k_ ≠ B2))) (fun _ hk => hk.2)) (fun _ hk => ⟨hk.1.1.1, ⟨hk.1.1.2, hk.1.2⟩⟩)))⟩; have Eq : Aside0 (w6.heap[B6]? = some (.cells #[.int .i64 Dn, .int .i64 Do, .int .i64 Dp, .int .i64 Dq, .int .i64 Dr, .int .i64 Ds, .int .i64 Dt, .int .i64 Du, .int .i64 Dv, .int .i64 Dw, .slice Bg B9.length Bh, .slice Bi Ba.length Bj, .slice Bk Bb.length Bl, .slice Be B0.length B8] 28 (0, 0))) := ⟨(by rw [hw]; exact (by (with_reducible repeat (first | apply kn_ | apply kd_ | apply ka_)); refine blk_farc ?_ B4.out; (with_reducible repeat (first | apply kn_ | apply kd_ | apply ka_)); exact B3.out))⟩; have Er : Aside0 (w6.heap[B2]? = some (.cells #[.slice none 0 0, .slice none 0 0, .slice none 0 0, .slice none 0 0, .slice none 0 0, .slice none 0 0] 44 (0, 0))) := ⟨(by rw [hw]; exact (by (with_reducible repeat (first | apply kn_ | apply kd_ | apply ka_)); refine setRow_heap _ _ #[.slice none 0 0, .slice none 0 0, .slice none 0 0, .slice none 0 0, .slice none 0 0, .slice none 0 0] _ 44 (0, 0) ?_; (with_reducible repeat (first | apply kn_ | apply kd_ | apply ka_)); exact B7.out))⟩; have Es : Aside0 (Below w.heap.size w w6) := ⟨(by rw [hw]; exact (by repeat (first | (with_reducible first | exact HB.out | refine below_setc ?_ Bc.out | apply below_alloc | apply pw_below_drewN | apply below_drew1 | refine bs_ ?_ Bm.out | refine bs_ ?_ Bc.out) | exact HB.out)))⟩; clear hw; clear B1; clear B3; clear B7; clear HB; have B1 := Ep; have B3 := Eq; have B7 := Er; have HB := Es; clear Ep Eq Er Es))
  refine bodyPost_ret (results_ct rfl _ _ B2 44 #[.slice none 0 0, .slice none 0 0, .slice none 0 0, .slice none 0 0, .slice none 0 0, .slice none 0 0] (0, 0) _ rfl (by (with_reducible repeat (first | apply kn_ | apply kd_ | apply ka_)); exact B7.out) Try.underlying44 rfl (by kernel_rfl)) rfl ?_
  exact ⟨_, _, _, _, _, _, by first | rfl | (simp [*] <;> rfl), Kd.V_nil _ _ _ _ _, Kd.V_nil _ _ _ _ _, Kd.V_nil _ _ _ _ _, Kd.V_nil _ _ _ _ _, Kd.V_nil _ _ _ _ _, Kd.V_nil _ _ _ _ _, by repeat (first | (with_reducible first | exact HB.out | apply ba_ | apply bn_ | apply bd_ | refine bs_ ?_ Bm.out | refine bs_ ?_ Bc.out) | exact HB.out)⟩
 ·rw [if_neg c3] at H
  have Ft : decide (a1 < 0) = false := decide_eq_false c3
  clear c3
  by_cases c7 : a1 ≥ (B0.length : Int)
  ·rw [if_pos c7] at H
   have Fu : decide ((B0.length : Int) ≤ a1) = true := decide_eq_true c7
   clear c7
   simp only [Option.some.injEq, Prod.mk.injEq] at H
   obtain ⟨rfl, rfl, rfl, rfl, rfl, rfl, rfl⟩ := H
   go_enter Try.func46, Try.ntmps46
   go_wp2_with (first | ((with_reducible refine gate_load (t := 28) (x := .tmp 2) rfl ?_); refine lrg_ 28 (.tmp 2) B6 28 (by exact B3.out) Try.underlying28 ?_) | ((with_reducible refine gate_dst (N := 2) rfl ?_); (try (refine gate_guard (by rfl) ?_; dsimp only)); refine bxe_ 2 28 #[.int .i64 Dn, .int .i64 Do, .int .i64 Dp, .int .i64 Dq, .int .i64 Dr, .int .i64 Ds, .int .i64 Dt, .int .i64 Du, .int .i64 Dv, .int .i64 Dw, .slice Bg B9.length Bh, .slice Bi Ba.length Bj, .slice Bk Bb.length Bl, .slice Be B0.length B8] ?_; intro B6 hg w8 hbox hb; replace B1 := am_ (Kd.V_below (Kd.V_elderB (by (with_reducible repeat (first | apply Kd.V_alloc | apply Kd.V_drewN | apply Kd.V_drew)); exact B1.out) B6 (Nat.le_of_eq hg.symm)) hb); have B3 := am_ (hbox); have Dx := gwk_ HB hg; have Bm := Dx; replace HB := bst_ HB hb; clear hb hbox hg) | ((with_reducible refine gate_dst (N := 4) rfl ?_); (try (refine gate_guard (by rfl) ?_; dsimp only)); refine bxe_ 4 44 #[.slice none 0 0, .slice none 0 0, .slice none 0 0, .slice none 0 0, .slice none 0 0, .slice none 0 0] ?_; intro B2 hg w9 hbox hb; replace B1 := am_ (Kd.V_below (Kd.V_elderB (by (with_reducible repeat (first | apply Kd.V_alloc | apply Kd.V_drewN | apply Kd.V_drew)); exact B1.out) B2 (Nat.le_of_eq hg.symm)) hb); have B7 := am_ (hbox); have Dy := gwk_ HB hg; have Bc := Dy; replace HB := bst_ HB hb; have B4 := nbk_ B3 hg; have Bd := nbs_ B4; replace B3 := bkb_ B3 hb; clear hb hbox hg; have G6 := B4.out; have G7 := Bd.out; have Fv := cells_14 B3.out; have Fw := frozen_14 B3.out) | ((with_reducible refine gate_store (t := 44) (p := 4) rfl ?_); refine row_store_event (t := 44) (p := 4) (v := ?vo_w12) ?hgd ?ho ?hn B2 #[.slice none 0 0, .slice none 0 0, .slice none 0 0, .slice none 0 0, .slice none 0 0, .slice none 0 0] ?hx ?hy 44 #[.slice none 0 0, .slice none 0 0, .slice none 0 0, .slice none 0 0, .slice none 0 0, .slice none 0 0] ?hg ?hi ?hold ?h1 ?_; (case hgd => rfl); (case ho => rfl); (case hn => rfl); (case hx => rfl); (case hy => rfl); (case hg => exact (by (with_reducible repeat (first | apply kn_ | apply kd_ | apply ka_)); exact B7.out)); (case hi => kernel_rfl); (case hold => rfl); (case h1 => (first | kernel_rfl | simp [Value.oneCell'])); intro w12 hw; have Ep : Aside0 (Kd.V k44 44 w12 w.heap.size (fun k_ => (B5 k_ ∨ w.heap.size ≤ k_) ∧ k_ ≠ B6 ∧ k_ ≠ B2) (.slice Be B0.length B8) B0) := ⟨(by rw [hw]; exact (by (with_reducible repeat (first | apply Kd.V_alloc | apply Kd.V_drewN | apply Kd.V_drew)); exact Kd.V_mono (Kd.V_farc (Kd.V_mono B1.out (fun k_ hk => (⟨hk, hk.2⟩ : _ ∧ k_ ≠ B2))) (fun _ hk => hk.2)) (fun _ hk => ⟨hk.1.1.1, ⟨hk.1.1.2, hk.1.2⟩⟩)))⟩; have Eq : Aside0 (w12.heap[B6]? = some (.cells #[.int .i64 Dn, .int .i64 Do, .int .i64 Dp, .int .i64 Dq, .int .i64 Dr, .int .i64 Ds, .int .i64 Dt, .int .i64 Du, .int .i64 Dv, .int .i64 Dw, .slice Bg B9.length Bh, .slice Bi Ba.length Bj, .slice Bk Bb.length Bl, .slice Be B0.length B8] 28 (0, 0))) := ⟨(by rw [hw]; exact (by (with_reducible repeat (first | apply kn_ | apply kd_ | apply ka_)); refine blk_farc ?_ B4.out; (with_reducible repeat (first | apply kn_ | apply kd_ | apply ka_)); exact B3.out))⟩; have Er : Aside0 (w12.heap[B2]? = some (.cells #[.slice none 0 0, .slice none 0 0, .slice none 0 0, .slice none 0 0, .slice none 0 0, .slice none 0 0] 44 (0, 0))) := ⟨(by rw [hw]; exact (by (with_reducible repeat (first | apply kn_ | apply kd_ | apply ka_)); refine setRow_heap _ _ #[.slice none 0 0, .slice none 0 0, .slice none 0 0, .slice none 0 0, .slice none 0 0, .slice none 0 0] _ 44 (0, 0) ?_; (with_reducible repeat (first | apply kn_ | apply kd_ | apply ka_)); exact B7.out))⟩; have Es : Aside0 (Below w.heap.size w w12) := ⟨(by rw [hw]; exact (by repeat (first | (with_reducible first | exact HB.out | refine below_setc ?_ Bc.out | apply below_alloc | apply pw_below_drewN | apply below_drew1 | refine bs_ ?_ Bm.out | refine bs_ ?_ Bc.out) | exact HB.out)))⟩; clear hw; clear B1; clear B3; clear B7; clear HB; have B1 := Ep; have B3 := Eq; have B7 := Er; have HB := Es; clear Ep Eq Er Es))
   refine bodyPost_ret (results_ct rfl _ _ B2 44 #[.slice none 0 0, .slice none 0 0, .slice none 0 0, .slice none 0 0, .slice none 0 0, .slice none 0 0] (0, 0) _ rfl (by (with_reducible repeat (first | apply kn_ | apply kd_ | apply ka_)); exact B7.out) Try.underlying44 rfl (by kernel_rfl)) rfl ?_
   exact ⟨_, _, _, _, _, _, by first | rfl | (simp [*] <;> rfl), Kd.V_nil _ _ _ _ _, Kd.V_nil _ _ _ _ _, Kd.V_nil _ _ _ _ _, Kd.V_nil _ _ _ _ _, Kd.V_nil _ _ _ _ _, Kd.V_nil _ _ _ _ _, by repeat (first | (with_reducible first | exact HB.out | apply ba_ | apply bn_ | apply bd_ | refine bs_ ?_ Bm.out | refine bs_ ?_ Bc.out) | exact HB.out)⟩
  ·rw [if_neg c7] at H
   have Fu : decide ((B0.length : Int) ≤ a1) = false := decide_eq_false c7
   clear c7
   by_cases Ex : 0 ≤ a1
   ·rw [if_pos Ex] at H
    have G8 : decide (0 ≤ a1) = true := decide_eq_true Ex
    clear Ex
    by_cases Ey : a1 < (B0.length : Int)
    ·rw [if_pos Ey] at H
     have G9 : decide (a1 < (B0.length : Int)) = true := decide_eq_true Ey
     clear Ey
     simp only [Option.some.injEq, Prod.mk.injEq] at H
     obtain ⟨rfl, rfl, rfl, rfl, rfl, rfl, rfl⟩ := H
     go_enter Try.func46, Try.ntmps46
     go_wp2_with (first | ((with_reducible refine gate_load (t := 28) (x := .tmp 2) rfl ?_); refine lrg_ 28 (.tmp 2) B6 28 (by exact B3.out) Try.underlying28 ?_) | ((with_reducible refine gate_dst (N := 2) rfl ?_); (try (refine gate_guard (by rfl) ?_; dsimp only)); refine bxe_ 2 28 #[.int .i64 Dn, .int .i64 Do, .int .i64 Dp, .int .i64 Dq, .int .i64 Dr, .int .i64 Ds, .int .i64 Dt, .int .i64 Du, .int .i64 Dv, .int .i64 Dw, .slice Bg B9.length Bh, .slice Bi Ba.length Bj, .slice Bk Bb.length Bl, .slice Be B0.length B8] ?_; intro B6 hg w15 hbox hb; replace B1 := am_ (Kd.V_below (Kd.V_elderB (by (with_reducible repeat (first | apply Kd.V_alloc | apply Kd.V_drewN | apply Kd.V_drew)); exact B1.out) B6 (Nat.le_of_eq hg.symm)) hb); have B3 := am_ (hbox); have Dx := gwk_ HB hg; have Bm := Dx; replace HB := bst_ HB hb; clear hb hbox hg) | ((with_reducible refine gate_dst (N := 4) rfl ?_); (try (refine gate_guard (by rfl) ?_; dsimp only)); refine bxe_ 4 44 #[.slice none 0 0, .slice none 0 0, .slice none 0 0, .slice none 0 0, .slice none 0 0, .slice none 0 0] ?_; intro B2 hg w16 hbox hb; replace B1 := am_ (Kd.V_below (Kd.V_elderB (by (with_reducible repeat (first | apply Kd.V_alloc | apply Kd.V_drewN | apply Kd.V_drew)); exact B1.out) B2 (Nat.le_of_eq hg.symm)) hb); have B7 := am_ (hbox); have Dy := gwk_ HB hg; have Bc := Dy; replace HB := bst_ HB hb; have B4 := nbk_ B3 hg; have Bd := nbs_ B4; replace B3 := bkb_ B3 hb; clear hb hbox hg; have Ga := B4.out; have Gb := Bd.out; have Fx := cells_14 B3.out; have Fy := frozen_14 B3.out; have Eh : 0 ≤ (a1 : Int) := of_decide_eq_true (by first | (with_reducible assumption) | assumption); have Ei : a1 < (B0.length : Int) := of_decide_eq_true (by first | (with_reducible assumption) | assumption); obtain ⟨Et, Bz, D0, D1, D2, D3, D4, D5, D6, D7, D8, D9, Da, Fz, Ej, Ek, El, Em, En, Eo, Dz, E0, E1, E2, E3, E4, E5, E6, E7, E8, E9, Ea⟩ := at_T44 (Kd.V_reads' B1.out).2.2 a1 Eh Ei; cases Fz; obtain ⟨Gc, Ev, Ew, Bf⟩ := Kd.V_get B1.out z44 a1 Eh (by first | exact Ei | exact of_decide_eq_true (by first | (with_reducible assumption) | assumption) | (have e_ := (Kd.V_reads' B1.out).1; omega)); obtain ⟨Ez, F0, F1, F2, F3, F4, F5, F6, F7, F8, F9, Fa, rfl, Db, Dc, Dd, De, Df, Dg, Dh, Di, Dj, Dk, Dl, Dm⟩ := k44_openF Ew; have Bn := Bf 0 _ rfl; rw [Nat.add_zero] at Bn; replace Bn := Option.some.inj (Bn.symm.trans Ej); injection Bn with hva_ hvn_ hvc_; rw [hva_] at Dc; rw [hvc_] at Db; have Bo := am_ (show Kd.V (Kd.int .i64) 3 _ w.heap.size _ _ ((rd_T44 B0 a1).f0) from Kd.V_mk Db Dc); clear hva_ hvn_ hvc_ Dc Db; have Bp := Bf 1 _ rfl; rw [add_field _ _ 1 (by omega)] at Bp; replace Bp := Option.some.inj (Bp.symm.trans Ek); injection Bp with hva_ hvn_ hvc_; rw [hva_] at De; rw [hvc_] at Dd; have Bq := am_ (show Kd.V (Kd.int .i64) 3 _ w.heap.size _ _ ((rd_T44 B0 a1).f1) from Kd.V_mk Dd De); clear hva_ hvn_ hvc_ De Dd; have Br := Bf 2 _ rfl; rw [add_field _ _ 2 (by omega)] at Br; replace Br := Option.some.inj (Br.symm.trans El); injection Br with hva_ hvn_ hvc_; rw [hva_] at Dg; rw [hvc_] at Df; have Bs := am_ (show Kd.V k74 74 _ w.heap.size _ _ ((rd_T44 B0 a1).f2) from Kd.V_mk Df Dg); clear hva_ hvn_ hvc_ Dg Df; have Bt := Bf 3 _ rfl; rw [add_field _ _ 3 (by omega)] at Bt; replace Bt := Option.some.inj (Bt.symm.trans Em); injection Bt with hva_ hvn_ hvc_; rw [hva_] at Di; rw [hvc_] at Dh; have Bu := am_ (show Kd.V k48 48 _ w.heap.size _ _ ((rd_T44 B0 a1).f3) from Kd.V_mk Dh Di); clear hva_ hvn_ hvc_ Di Dh; have Bv := Bf 4 _ rfl; rw [add_field _ _ 4 (by omega)] at Bv; replace Bv := Option.some.inj (Bv.symm.trans En); injection Bv with hva_ hvn_ hvc_; rw [hva_] at Dk; rw [hvc_] at Dj; have Bw := am_ (show Kd.V k74 74 _ w.heap.size _ _ ((rd_T44 B0 a1).f4) from Kd.V_mk Dj Dk); clear hva_ hvn_ hvc_ Dk Dj; have Bx := Bf 5 _ rfl; rw [add_field _ _ 5 (by omega)] at Bx; replace Bx := Option.some.inj (Bx.symm.trans Eo); injection Bx with hva_ hvn_ hvc_; rw [hva_] at Dm; rw [hvc_] at Dl; have By := am_ (show Kd.V k81 81 _ w.heap.size _ _ ((rd_T44 B0 a1).f5) from Kd.V_mk Dl Dm); clear hva_ hvn_ hvc_ Dm Dl; clear Bf Ev; have Fb := am_ E0; have Fc := am_ Dz; clear E0 Dz; have Fd := am_ E2; have Fe := am_ E1; clear E2 E1; have Ff := am_ E4; have Fg := am_ E3; clear E4 E3; have Fh := am_ E6; have Fi := am_ E5; clear E6 E5; have Fj := am_ E8; have Fk := am_ E7; clear E8 E7; have Fl := am_ Ea; have Fm := am_ E9; clear Ea E9; replace Eh := eq_true Eh; replace Ei := eq_true Ei) | ((with_reducible refine gate_store (t := 44) (p := 4) rfl ?_); refine row_store_event (t := 44) (p := 4) (v := ?vo_w19) ?hgd ?ho ?hn B2 #[.slice Bz ((rd_T44 B0 a1).f0).length D0, .slice D1 ((rd_T44 B0 a1).f1).length D2, .slice D3 ((rd_T44 B0 a1).f2).length D4, .slice D5 ((rd_T44 B0 a1).f3).length D6, .slice D7 ((rd_T44 B0 a1).f4).length D8, .slice D9 ((rd_T44 B0 a1).f5).length Da] ?hx ?hy 44 #[.slice none 0 0, .slice none 0 0, .slice none 0 0, .slice none 0 0, .slice none 0 0, .slice none 0 0] ?hg ?hi ?hold ?h1 ?_; (case hgd => rfl); (case ho => rfl); (case hn => rfl); (case hx => rfl); (case hy => rfl); (case hg => exact (by (with_reducible repeat (first | apply kn_ | apply kd_ | apply ka_)); exact B7.out)); (case hi => kernel_rfl); (case hold => rfl); (case h1 => (first | kernel_rfl | simp [Value.oneCell'])); intro w19 hw; have Ep : Aside0 (Kd.V k44 44 w19 w.heap.size (fun k_ => (B5 k_ ∨ w.heap.size ≤ k_) ∧ k_ ≠ B6 ∧ k_ ≠ B2) (.slice (some Et) B0.length B8) B0) := ⟨(by rw [hw]; exact (by (with_reducible repeat (first | apply Kd.V_alloc | apply Kd.V_drewN | apply Kd.V_drew)); exact Kd.V_mono (Kd.V_farc (Kd.V_mono B1.out (fun k_ hk => (⟨hk, hk.2⟩ : _ ∧ k_ ≠ B2))) (fun _ hk => hk.2)) (fun _ hk => ⟨hk.1.1.1, ⟨hk.1.1.2, hk.1.2⟩⟩)))⟩; have Eq : Aside0 (Kd.V (Kd.int .i64) 3 w19 w.heap.size (fun k_ => (B5 k_ ∨ w.heap.size ≤ k_) ∧ k_ ≠ B6 ∧ k_ ≠ B2) (.slice Bz ((rd_T44 B0 a1).f0).length D0) ((rd_T44 B0 a1).f0)) := ⟨(by rw [hw]; exact (by (with_reducible repeat (first | apply Kd.V_alloc | apply Kd.V_drewN | apply Kd.V_drew)); exact Kd.V_mono (Kd.V_farc (Kd.V_mono Bo.out (fun k_ hk => (⟨hk, hk.2⟩ : _ ∧ k_ ≠ B2))) (fun _ hk => hk.2)) (fun _ hk => ⟨hk.1.1.1, ⟨hk.1.1.2, hk.1.2⟩⟩)))⟩; have Er : Aside0 (Kd.V (Kd.int .i64) 3 w19 w.heap.size (fun k_ => (B5 k_ ∨ w.heap.size ≤ k_) ∧ k_ ≠ B6 ∧ k_ ≠ B2) (.slice D1 ((rd_T44 B0 a1).f1).length D2) ((rd_T44 B0 a1).f1)) := ⟨(by rw [hw]; exact (by (with_reducible repeat (first | apply Kd.V_alloc | apply Kd.V_drewN | apply Kd.V_drew)); exact Kd.V_mono (Kd.V_farc (Kd.V_mono Bq.out (fun k_ hk => (⟨hk, hk.2⟩ : _ ∧ k_ ≠ B2))) (fun _ hk => hk.2)) (fun _ hk => ⟨hk.1.1.1, ⟨hk.1.1.2, hk.1.2⟩⟩)))⟩; have Es : Aside0 (Kd.V k74 74 w19 w.heap.size (fun k_ => (B5 k_ ∨ w.heap.size ≤ k_) ∧ k_ ≠ B6 ∧ k_ ≠ B2) (.slice D3 ((rd_T44 B0 a1).f2).length D4) ((rd_T44 B0 a1).f2)) := ⟨(by rw [hw]; exact (by (with_reducible repeat (first | apply Kd.V_alloc | apply Kd.V_drewN | apply Kd.V_drew)); exact Kd.V_mono (Kd.V_farc (Kd.V_mono Bs.out (fun k_ hk => (⟨hk, hk.2⟩ : _ ∧ k_ ≠ B2))) (fun _ hk => hk.2)) (fun _ hk => ⟨hk.1.1.1, ⟨hk.1.1.2, hk.1.2⟩⟩)))⟩; have Gd : Aside0 (Kd.V k48 48 w19 w.heap.size (fun k_ => (B5 k_ ∨ w.heap.size ≤ k_) ∧ k_ ≠ B6 ∧ k_ ≠ B2) (.slice D5 ((rd_T44 B0 a1).f3).length D6) ((rd_T44 B0 a1).f3)) := ⟨(by rw [hw]; exact (by (with_reducible repeat (first | apply Kd.V_alloc | apply Kd.V_drewN | apply Kd.V_drew)); exact Kd.V_mono (Kd.V_farc (Kd.V_mono Bu.out (fun k_ hk => (⟨hk, hk.2⟩ : _ ∧ k_ ≠ B2))) (fun _ hk => hk.2)) (fun _ hk => ⟨hk.1.1.1, ⟨hk.1.1.2, hk.1.2⟩⟩)))⟩; have Ge : Aside0 (Kd.V k74 74 w19 w.heap.size (fun k_ => (B5 k_ ∨ w.heap.size ≤ k_) ∧ k_ ≠ B6 ∧ k_ ≠ B2) (.slice D7 ((rd_T44 B0 a1).f4).length D8) ((rd_T44 B0 a1).f4)) := ⟨(by rw [hw]; exact (by (with_reducible repeat (first | apply Kd.V_alloc | apply Kd.V_drewN | apply Kd.V_drew)); exact Kd.V_mono (Kd.V_farc (Kd.V_mono Bw.out (fun k_ hk => (⟨hk, hk.2⟩ : _ ∧ k_ ≠ B2))) (fun _ hk => hk.2)) (fun _ hk => ⟨hk.1.1.1, ⟨hk.1.1.2, hk.1.2⟩⟩)))⟩; have Gf : Aside0 (Kd.V k81 81 w19 w.heap.size (fun k_ => (B5 k_ ∨ w.heap.size ≤ k_) ∧ k_ ≠ B6 ∧ k_ ≠ B2) (.slice D9 ((rd_T44 B0 a1).f5).length Da) ((rd_T44 B0 a1).f5)) := ⟨(by rw [hw]; exact (by (with_reducible repeat (first | apply Kd.V_alloc | apply Kd.V_drewN | apply Kd.V_drew)); exact Kd.V_mono (Kd.V_farc (Kd.V_mono By.out (fun k_ hk => (⟨hk, hk.2⟩ : _ ∧ k_ ≠ B2))) (fun _ hk => hk.2)) (fun _ hk => ⟨hk.1.1.1, ⟨hk.1.1.2, hk.1.2⟩⟩)))⟩; have Gg : Aside0 (w19.heap[B6]? = some (.cells #[.int .i64 Dn, .int .i64 Do, .int .i64 Dp, .int .i64 Dq, .int .i64 Dr, .int .i64 Ds, .int .i64 Dt, .int .i64 Du, .int .i64 Dv, .int .i64 Dw, .slice Bg B9.length Bh, .slice Bi Ba.length Bj, .slice Bk Bb.length Bl, .slice (some Et) B0.length B8] 28 (0, 0))) := ⟨(by rw [hw]; exact (by (with_reducible repeat (first | apply kn_ | apply kd_ | apply ka_)); refine blk_farc ?_ B4.out; (with_reducible repeat (first | apply kn_ | apply kd_ | apply ka_)); exact B3.out))⟩; have Gh : Aside0 (w19.heap[B2]? = some (.cells #[.slice Bz ((rd_T44 B0 a1).f0).length D0, .slice D1 ((rd_T44 B0 a1).f1).length D2, .slice D3 ((rd_T44 B0 a1).f2).length D4, .slice D5 ((rd_T44 B0 a1).f3).length D6, .slice D7 ((rd_T44 B0 a1).f4).length D8, .slice D9 ((rd_T44 B0 a1).f5).length Da] 44 (0, 0))) := ⟨(by rw [hw]; exact (by (with_reducible repeat (first | apply kn_ | apply kd_ | apply ka_)); refine setRow_heap _ _ #[.slice none 0 0, .slice none 0 0, .slice none 0 0, .slice none 0 0, .slice none 0 0, .slice none 0 0] _ 44 (0, 0) ?_; (with_reducible repeat (first | apply kn_ | apply kd_ | apply ka_)); exact B7.out))⟩; have Gi : Aside0 (Below w.heap.size w w19) := ⟨(by rw [hw]; exact (by repeat (first | (with_reducible first | exact HB.out | refine below_setc ?_ Bc.out | apply below_alloc | apply pw_below_drewN | apply below_drew1 | refine bs_ ?_ Bm.out | refine bs_ ?_ Bc.out) | exact HB.out)))⟩; clear hw; clear B1; clear Bo; clear Bq; clear Bs; clear Bu; clear Bw; clear By; clear B3; clear B7; clear HB; have B1 := Ep; have Bo := Eq; have Bq := Er; have Bs := Es; have Bu := Gd; have Bw := Ge; have By := Gf; have B3 := Gg; have B7 := Gh; have HB := Gi; clear Ep Eq Er Es Gd Ge Gf Gg Gh Gi))
     refine bodyPost_ret (results_ct rfl _ _ B2 44 #[.slice Bz ((rd_T44 B0 a1).f0).length D0, .slice D1 ((rd_T44 B0 a1).f1).length D2, .slice D3 ((rd_T44 B0 a1).f2).length D4, .slice D5 ((rd_T44 B0 a1).f3).length D6, .slice D7 ((rd_T44 B0 a1).f4).length D8, .slice D9 ((rd_T44 B0 a1).f5).length Da] (0, 0) _ rfl (by (with_reducible repeat (first | apply kn_ | apply kd_ | apply ka_)); exact B7.out) Try.underlying44 rfl (by kernel_rfl)) rfl ?_
     exact ⟨_, _, _, _, _, _, by first | rfl | (simp [*] <;> rfl), by (with_reducible repeat (first | apply Kd.V_alloc | apply Kd.V_drewN | apply Kd.V_drew)); exact Kd.V_mono Bo.out (fun _ hk => hk.1), by (with_reducible repeat (first | apply Kd.V_alloc | apply Kd.V_drewN | apply Kd.V_drew)); exact Kd.V_mono Bq.out (fun _ hk => hk.1), by (with_reducible repeat (first | apply Kd.V_alloc | apply Kd.V_drewN | apply Kd.V_drew)); exact Kd.V_mono Bs.out (fun _ hk => hk.1), by (with_reducible repeat (first | apply Kd.V_alloc | apply Kd.V_drewN | apply Kd.V_drew)); exact Kd.V_mono Bu.out (fun _ hk => hk.1), by (with_reducible repeat (first | apply Kd.V_alloc | apply Kd.V_drewN | apply Kd.V_drew)); exact Kd.V_mono Bw.out (fun _ hk => hk.1), by (with_reducible repeat (first | apply Kd.V_alloc | apply Kd.V_drewN | apply Kd.V_drew)); exact Kd.V_mono By.out (fun _ hk => hk.1), by repeat (first | (with_reducible first | exact HB.out | apply ba_ | apply bn_ | apply bd_ | refine bs_ ?_ Bm.out | refine bs_ ?_ Bc.out) | exact HB.out)⟩
    ·rw [if_neg Ey] at H
     exact absurd H (by simp)
   ·rw [if_neg Ex] at H
    exact absurd H (by simp)
def script_listed_int.f (l0 : List Int) (a1 a2 : Int) : Option (Int) := if a1 < (l0.length : Int) then (if 0 ≤ a1 then (some (rd l0 a1)) else (none)) else (some a2)
set_option maxHeartbeats 8000000 in
set_option maxRecDepth 100000 in
theorem script_listed_int.calls (A0 : Option Addr) (c0 : Nat) (l0 : List Int) (a1 a2 r : Int) (w : World) (B5 : Kd.C (Kd.int .i64) w A0 l0.length l0) (B6 : l0.length ≤ c0) (h : script_listed_int.f l0 a1 a2 = some r) :
  Calls Try.prog 48 #[.slice A0 l0.length c0, .int .i64 a1, .int .i64 a2] w fun e w' => e = .returned (.int .i64 r) ∧ Drawn0 w w' := by
 have B8 := am_ B5
 have Ba := am_ B6
 clear B5 B6
 have H := h
 unfold script_listed_int.f at H
 clear h
 by_cases c4 : a1 < (l0.length : Int)
 ·rw [if_pos c4] at H
  have B3 : decide (a1 < (l0.length : Int)) = true := decide_eq_true c4
  clear c4
  by_cases c5 : 0 ≤ a1
  ·rw [if_pos c5] at H
   have B9 : decide (0 ≤ a1) = true := decide_eq_true c5
   clear c5
   obtain rfl := Option.some.inj H
   have B0 : 0 ≤ (a1 : Int) := of_decide_eq_true (by first | (with_reducible assumption) | assumption)
   have B1 : a1 < (l0.length : Int) := of_decide_eq_true (by first | (with_reducible assumption) | assumption)
   obtain ⟨B7, B4, B2⟩ := Kd.at_int B8.out a1 B0 B1
   cases B4
   replace B0 := eq_true B0
   replace B1 := eq_true B1
   go_enter Try.func48, Try.ntmps48
   go_wp2
   go_ret
   exact ⟨by first | rfl | (simp; done) | (simp [*]; done), by repeat (first | exact Drawn0.refl _ | apply Drawn0.step)⟩
  ·rw [if_neg c5] at H
   exact absurd H (by simp)
 ·rw [if_neg c4] at H
  have B3 : decide (a1 < (l0.length : Int)) = false := decide_eq_false c4
  clear c4
  obtain rfl := Option.some.inj H
  go_enter Try.func48, Try.ntmps48
  go_wp2
  go_ret
  exact ⟨by first | rfl | (simp; done) | (simp [*]; done), by repeat (first | exact Drawn0.refl _ | apply Drawn0.step)⟩
end Go.Proofs.Ythdoghhmooodjaa.Gn
