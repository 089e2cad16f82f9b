import Derived.Test.YtdnccjlfongdeaaZRoundOnlyGn0
import Derived.Test.YtdnccjlfongdeaaZRoundOnlyGn2
import Derived.Test.YtdnccjlfongdeaaZRoundOnlyGn23
namespace Go.Proofs.Ytdnccjlfongdeaa.Gn
open Go.RowKit Go.Proofs.YtdnccjlfongdeaaW.PrintWords Go.Proofs.YtdnccjlfongdeaaW.PrintLast Go.Proofs.YtdnccjlfongdeaaW.PrintMore
attribute [local go_sem] max2_int min2_int max_two min_two max_three min_three max_four min_four   -- for this text's walks alone
set_option linter.unusedVariables false
set_option linter.unusedSimpArgs false
mutual
def r03_Plain.j0 : Nat → Bool → Int → Int → Int → Int → Int → Int → Int → Int → Int → Int → List Int → Option (Int)
 | 0, _, _, _, _, _, _, _, _, _, _, _, _ => none
 | k + 1, Bl, Ba, B2, B0, B3, B1, B4, B5, B6, B7, B8, B9 => if Bl = true then (some 7) else ((r03_within.f B0 1 4).bind fun Bb => (if Bb = true then ((r03_within.f B3 (wrap64 ((wrap64 ((wrap64 (6 * (wrap64 (B2 + 1)))) * B0)) + 1)) 400).bind fun Bc => (if Bc = true then ((r03_within.f B1 1 64).bind fun Bd => (if Bd = true then ((r03_within.f B4 0 (wrap64 (B1 - 1))).bind fun Be => (if Be = true then ((r03_within.f B5 0 30000).bind fun Bf => (if Bf = true then ((r03_within.f B6 1 30000).bind fun Bg => (if Bg = true then ((r03_within.f B7 2 250).bind fun Bh => (if Bh = true then ((r03_within.f B8 1 100).bind fun Bi => (r03_Plain.j1 k (!Bi) Ba B2 B0 B3 B1 B4 B5 B6 B7 B8 B9)) else (r03_Plain.j1 k true Ba B2 B0 B3 B1 B4 B5 B6 B7 B8 B9))) else (r03_Plain.j1 k true Ba B2 B0 B3 B1 B4 B5 B6 B7 B8 B9))) else (r03_Plain.j1 k true Ba B2 B0 B3 B1 B4 B5 B6 B7 B8 B9))) else (r03_Plain.j1 k true Ba B2 B0 B3 B1 B4 B5 B6 B7 B8 B9))) else (r03_Plain.j1 k true Ba B2 B0 B3 B1 B4 B5 B6 B7 B8 B9))) else (r03_Plain.j1 k true Ba B2 B0 B3 B1 B4 B5 B6 B7 B8 B9))) else (some 10)))
def r03_Plain.j1 : Nat → Bool → Int → Int → Int → Int → Int → Int → Int → Int → Int → Int → List Int → Option (Int)
 | 0, _, _, _, _, _, _, _, _, _, _, _, _ => none
 | k + 1, Bm, Ba, B2, B0, B3, B1, B4, B5, B6, B7, B8, B9 => if Bm = true then (some 8) else ((r03_within.f (B9.length : Int) 1 32).bind fun Bj => (if Bj = true then ((r03_owned.f k Ba B2 B0 B3 B1 B4 B5 B6 B7 B8 B9).bind fun Bk => (if Bk = true then (some 0) else (some 11))) else (some 11)))
end
def r03_Plain.f (k : Nat) (B0 B1 B3 B4 B5 B6 B7 B8 B9 Ba : Int) (B2 : List Int) : Option (Int) := (r03_within.f B0 4 13).bind fun Bb => (if Bb = true then ((r03_within.f B1 0 4).bind fun Bc => (if Bc = true then (r03_Plain.j0 k (decide (B0 ≤ (wrap64 (3 * B1)))) B0 B1 B3 B4 B5 B6 B7 B8 B9 Ba B2) else (r03_Plain.j0 k true B0 B1 B3 B4 B5 B6 B7 B8 B9 Ba B2))) else (r03_Plain.j0 k true B0 B1 B3 B4 B5 B6 B7 B8 B9 Ba B2))
set_option maxHeartbeats 8000000 in
set_option maxRecDepth 100000 in
theorem r03_Plain.calls (k : Nat) (B5 B3 B4 B6 B7 B8 B9 Ba Bb Bc : Int) (Be : Option Addr) (Bf : Nat) (B1 : List Int) (r : Int) (w : World) (Bh : Kd.C (Kd.int .i64) w Be B1.length B1) (Bi : B1.length ≤ Bf) (h : r03_Plain.f k B5 B3 B4 B6 B7 B8 B9 Ba Bb Bc B1 = some r) :
  Calls Try.prog 16 #[.agg #[.int .i64 B5, .int .i64 B3, .int .i64 B4, .int .i64 B6, .int .i64 B7, .int .i64 B8, .int .i64 B9, .int .i64 Ba, .int .i64 Bb, .int .i64 Bc, .slice Be B1.length Bf]] w fun e w' => e = .returned (.int .i64 r) ∧ Below w.heap.size w w' := by
 have Dq := Try.underlying24
 have Bk := am_ Bh
 have Bl := am_ Bi
 clear Bh Bi
 have HB := am_ (Below.refl w.heap.size w)
 have H := h
 unfold r03_Plain.f at H
 clear h
 have D5 := am_ H
 clear H
 go_enter Try.func16, Try.ntmps16
 go_upto_region 1 with (first | ((with_reducible refine gate_dst (N := 1) rfl ?_); refine bxe_ 1 24 #[.int .i64 B5, .int .i64 B3, .int .i64 B4, .int .i64 B6, .int .i64 B7, .int .i64 B8, .int .i64 B9, .int .i64 Ba, .int .i64 Bb, .int .i64 Bc, .slice Be B1.length Bf] ?_; intro Bj hg w3 hbox hb; have D6 := below_of hb (by repeat (first | (with_reducible first | exact HB.out | apply ba_ | apply bn_ | apply bd_) | exact HB.out)); have B0 := am_ (hbox); have Bn := am_ ((by rw [hg]; exact (below_size D6) : w.heap.size ≤ Bj)); have B2 := Bn; replace HB := am_ (below_step D6 hb); clear D6; clear hb hbox hg))
 (try simp only [Act.put, zs_])
 go_cut [20] (fun v20 wc => ∃ (kq : Nat) (Bg : Bool), v20 = .bool Bg ∧ Aside0 (r03_Plain.j0 kq Bg B5 B3 B4 B6 B7 B8 B9 Ba Bb Bc B1 = some r) ∧ Aside0 (kq ≤ k) ∧ Aside0 (wc.heap[Bj]? = some (.cells #[.int .i64 B5, .int .i64 B3, .int .i64 B4, .int .i64 B6, .int .i64 B7, .int .i64 B8, .int .i64 B9, .int .i64 Ba, .int .i64 Bb, .int .i64 Bc, (.slice Be B1.length Bf)] 24 (0, 0))) ∧ Aside0 (Below w.heap.size w wc))
 case first =>
  have H := D5.out
  clear D5
  obtain ⟨D7, A4, H⟩ := bes_ H
  try dsimp only at H
  by_cases c5 : D7 = true
  subst c5
  rw [if_pos rfl] at H
  obtain ⟨D8, A6, H⟩ := bes_ H
  try dsimp only at H
  by_cases c7 : D8 = true
  subst c7
  rw [if_pos rfl] at H
  rotate_left
  replace c7 := Bool.eq_false_iff.mpr c7
  subst c7
  rw [if_neg (show ¬ (false = true) by decide)] at H
  rotate_left
  replace c5 := Bool.eq_false_iff.mpr c5
  subst c5
  rw [if_neg (show ¬ (false = true) by decide)] at H
  rotate_left
  all_goals
   have H' := am_ H
   clear H
   have Bo := cells_11 B0.out
   have Bp := frozen_11 B0.out
   go_wp2_with (first | ((with_reducible refine gate_callee (f := 41) rfl ?_); refine gom_ (some 5) Try.func41 (r03_within.calls B5 4 13 _ _ A4.out) ?_; rintro e w' ⟨rfl, ⟨nd, rfl⟩⟩; refine ⟨_, rfl, ?_⟩) | (go_at_call 41; (with_reducible refine (r03_within.calls B3 0 4 _ _ A6.out).mono ?_); rintro e w' ⟨rfl, ⟨nd, rfl⟩⟩))
   go_meet
  ·case rel => exact ⟨_, (decide (B5 ≤ (wrap64 (3 * B3)))), (by first | rfl | (simp; done) | (simp [*]; done)), H', ⟨by first | omega | exact Nat.le_refl _⟩, ⟨by (with_reducible repeat (first | apply kn_ | apply kd_ | apply ka_)); exact B0.out⟩, ⟨by repeat (first | (with_reducible first | exact HB.out | apply ba_ | apply bn_ | apply bd_ | refine bs_ ?_ B2.out) | exact HB.out)⟩⟩
  all_goals
   case rel => exact ⟨_, (true), (by first | rfl | (simp; done) | (simp [*]; done)), H', ⟨by first | omega | exact Nat.le_refl _⟩, ⟨by (with_reducible repeat (first | apply kn_ | apply kd_ | apply ka_)); exact B0.out⟩, ⟨by repeat (first | (with_reducible first | exact HB.out | apply ba_ | apply bn_ | apply bd_ | refine bs_ ?_ B2.out) | exact HB.out)⟩⟩
 case rest =>
  clear D5
  try clear c1
  try clear p2
  try clear c4
  try clear c5
  try clear p6
  try clear c7
  try clear hcz10
  try clear Bo
  try clear hcz9
  try clear hfz10
  try clear Bp
  try clear hfz9
  obtain ⟨kq, Bg, rfl, HA, Dk, B0, HB⟩ := hcut
  cases kq with
  | zero => exact absurd HA.out (by simp [r03_Plain.j0])
  | succ Dr =>
   have H := HA.out
   clear HA
   simp only [r03_Plain.j0] at H
   by_cases Bq : Bg = true
   ·subst Bq
    rw [if_pos rfl] at H
    obtain rfl := Option.some.inj H
    go_wp2
    go_ret
    exact ⟨by first | rfl | (simp [*] <;> rfl), by repeat (first | (with_reducible first | exact HB.out | apply ba_ | apply bn_ | apply bd_ | refine bs_ ?_ B2.out) | exact HB.out)⟩
   ·replace Bq := Bool.eq_false_iff.mpr Bq
    subst Bq
    rw [if_neg (show ¬ (false = true) by decide)] at H
    obtain ⟨D9, Dl, H⟩ := bes_ H
    try dsimp only at H
    by_cases Br : D9 = true
    ·subst Br
     rw [if_pos rfl] at H
     have Bm := am_ H
     clear H
     have Bs := cells_11 B0.out
     have Bt := frozen_11 B0.out
     go_upto_region 5 with (first | ((with_reducible refine gate_callee (f := 41) rfl ?_); refine gom_ (some 23) Try.func41 (r03_within.calls B4 1 4 _ _ Dl.out) ?_; rintro e w' ⟨rfl, ⟨nd, rfl⟩⟩; refine ⟨_, rfl, ?_⟩))
     (try simp only [Act.put, zs_])
     go_cut [75] (fun v75 wc => ∃ (kq : Nat) (Bd : Bool), v75 = .bool Bd ∧ Aside0 (r03_Plain.j1 kq Bd B5 B3 B4 B6 B7 B8 B9 Ba Bb Bc B1 = some r) ∧ Aside0 (kq ≤ Dr) ∧ Aside0 (wc.heap[Bj]? = some (.cells #[.int .i64 B5, .int .i64 B3, .int .i64 B4, .int .i64 B6, .int .i64 B7, .int .i64 B8, .int .i64 B9, .int .i64 Ba, .int .i64 Bb, .int .i64 Bc, (.slice Be B1.length Bf)] 24 (0, 0))) ∧ Aside0 (Below w.heap.size w wc))
     case first =>
      have H := Bm.out
      clear Bm
      obtain ⟨Da, Ds, H⟩ := bes_ H
      try dsimp only at H
      by_cases Bu : Da = true
      subst Bu
      rw [if_pos rfl] at H
      obtain ⟨Db, Dt, H⟩ := bes_ H
      try dsimp only at H
      by_cases Bv : Db = true
      subst Bv
      rw [if_pos rfl] at H
      obtain ⟨Dc, Du, H⟩ := bes_ H
      try dsimp only at H
      by_cases Bw : Dc = true
      subst Bw
      rw [if_pos rfl] at H
      obtain ⟨Dd, Dv, H⟩ := bes_ H
      try dsimp only at H
      by_cases Bx : Dd = true
      subst Bx
      rw [if_pos rfl] at H
      obtain ⟨De, Dw, H⟩ := bes_ H
      try dsimp only at H
      by_cases By : De = true
      subst By
      rw [if_pos rfl] at H
      obtain ⟨Df, Dx, H⟩ := bes_ H
      try dsimp only at H
      by_cases Bz : Df = true
      subst Bz
      rw [if_pos rfl] at H
      obtain ⟨Dg, Dy, H⟩ := bes_ H
      try dsimp only at H
      rotate_left
      replace Bz := Bool.eq_false_iff.mpr Bz
      subst Bz
      rw [if_neg (show ¬ (false = true) by decide)] at H
      rotate_left
      replace By := Bool.eq_false_iff.mpr By
      subst By
      rw [if_neg (show ¬ (false = true) by decide)] at H
      rotate_left
      replace Bx := Bool.eq_false_iff.mpr Bx
      subst Bx
      rw [if_neg (show ¬ (false = true) by decide)] at H
      rotate_left
      replace Bw := Bool.eq_false_iff.mpr Bw
      subst Bw
      rw [if_neg (show ¬ (false = true) by decide)] at H
      rotate_left
      replace Bv := Bool.eq_false_iff.mpr Bv
      subst Bv
      rw [if_neg (show ¬ (false = true) by decide)] at H
      rotate_left
      replace Bu := Bool.eq_false_iff.mpr Bu
      subst Bu
      rw [if_neg (show ¬ (false = true) by decide)] at H
      rotate_left
      all_goals
       have H' := am_ H
       clear H
       have D0 := cells_11 B0.out
       have D1 := frozen_11 B0.out
       go_wp2_with (first | ((with_reducible refine gate_callee (f := 41) rfl ?_); refine goesL_ (some 35) rfl rfl Try.func41 (by kernel_rfl) rfl #[.int .i64 B6, .int .i64 (wrap64 ((wrap64 ((wrap64 (6 * (wrap64 (B3 + 1)))) * B4)) + 1)), .int .i64 400] rfl (by (try simp only [ms_]); first | done | rfl) ?_; (with_reducible refine (r03_within.calls B6 (wrap64 ((wrap64 ((wrap64 (6 * (wrap64 (B3 + 1)))) * B4)) + 1)) 400 _ _ Ds.out).mono ?_); rintro e w' ⟨rfl, ⟨nd, rfl⟩⟩; refine ⟨_, rfl, ?_⟩) | (go_at_call 41; (with_reducible refine (r03_within.calls B7 1 64 _ _ Dt.out).mono ?_); rintro e w' ⟨rfl, ⟨nd, rfl⟩⟩) | (go_at_call 41; (with_reducible refine (r03_within.calls B8 0 (wrap64 (B7 - 1)) _ _ Du.out).mono ?_); rintro e w' ⟨rfl, ⟨nd, rfl⟩⟩) | (go_at_call 41; (with_reducible refine (r03_within.calls B9 0 30000 _ _ Dv.out).mono ?_); rintro e w' ⟨rfl, ⟨nd, rfl⟩⟩) | (go_at_call 41; (with_reducible refine (r03_within.calls Ba 1 30000 _ _ Dw.out).mono ?_); rintro e w' ⟨rfl, ⟨nd, rfl⟩⟩) | (go_at_call 41; (with_reducible refine (r03_within.calls Bb 2 250 _ _ Dx.out).mono ?_); rintro e w' ⟨rfl, ⟨nd, rfl⟩⟩) | (go_at_call 41; (with_reducible refine (r03_within.calls Bc 1 100 _ _ Dy.out).mono ?_); rintro e w' ⟨rfl, ⟨nd, rfl⟩⟩))
       go_meet
      ·case rel => exact ⟨_, (!Dg), (by first | rfl | (simp; done) | (simp [*]; done)), H', ⟨by have := Dk.out; first | omega | exact Nat.le_refl _⟩, ⟨by (with_reducible repeat (first | apply kn_ | apply kd_ | apply ka_)); exact B0.out⟩, ⟨by repeat (first | (with_reducible first | exact HB.out | apply ba_ | apply bn_ | apply bd_ | refine bs_ ?_ B2.out) | exact HB.out)⟩⟩
      all_goals
       case rel => exact ⟨_, (true), (by first | rfl | (simp; done) | (simp [*]; done)), H', ⟨by have := Dk.out; first | omega | exact Nat.le_refl _⟩, ⟨by (with_reducible repeat (first | apply kn_ | apply kd_ | apply ka_)); exact B0.out⟩, ⟨by repeat (first | (with_reducible first | exact HB.out | apply ba_ | apply bn_ | apply bd_ | refine bs_ ?_ B2.out) | exact HB.out)⟩⟩
     case rest =>
      clear Bm
      try clear c1
      try clear c2
      try clear p2
      try clear c4
      try clear c5
      try clear p6
      try clear c7
      try clear Bq
      try clear Br
      try clear c16
      try clear Bu
      try clear Bv
      try clear Bw
      try clear Bx
      try clear By
      try clear Bz
      try clear hcz10
      try clear Bs
      try clear D0
      try clear hcz30
      try clear hcz31
      try clear hcz32
      try clear hcz33
      try clear hcz34
      try clear hcz35
      try clear Bo
      try clear hcz9
      try clear hfz10
      try clear Bt
      try clear D1
      try clear hfz30
      try clear hfz31
      try clear hfz32
      try clear hfz33
      try clear hfz34
      try clear hfz35
      try clear Bp
      try clear hfz9
      try clear p2
      try clear p6
      obtain ⟨kq, Bd, rfl, HA, Dz, B0, HB⟩ := hcut
      cases kq with
      | zero => exact absurd HA.out (by simp [r03_Plain.j1])
      | succ Dh =>
       have H := HA.out
       clear HA
       simp only [r03_Plain.j1] at H
       by_cases D2 : Bd = true
       ·subst D2
        rw [if_pos rfl] at H
        obtain rfl := Option.some.inj H
        go_wp2
        go_ret
        exact ⟨by first | rfl | (simp [*] <;> rfl), by repeat (first | (with_reducible first | exact HB.out | apply ba_ | apply bn_ | apply bd_ | refine bs_ ?_ B2.out) | exact HB.out)⟩
       ·replace D2 := Bool.eq_false_iff.mpr D2
        subst D2
        rw [if_neg (show ¬ (false = true) by decide)] at H
        obtain ⟨Di, E0, H⟩ := bes_ H
        try dsimp only at H
        by_cases D3 : Di = true
        subst D3
        rw [if_pos rfl] at H
        obtain ⟨Dj, E1, H⟩ := bes_ H
        try dsimp only at H
        by_cases D4 : Dj = true
        subst D4
        rw [if_pos rfl] at H
        obtain rfl := Option.some.inj H
        rotate_left
        replace D4 := Bool.eq_false_iff.mpr D4
        subst D4
        rw [if_neg (show ¬ (false = true) by decide)] at H
        obtain rfl := Option.some.inj H
        rotate_left
        replace D3 := Bool.eq_false_iff.mpr D3
        subst D3
        rw [if_neg (show ¬ (false = true) by decide)] at H
        obtain rfl := Option.some.inj H
        rotate_left
        all_goals
         have Dm := cells_11 B0.out
         have Dn := frozen_11 B0.out
         go_wp2_with (first | ((with_reducible refine gate_callee (f := 41) rfl ?_); refine gom_ (some 79) Try.func41 (r03_within.calls (B1.length : Int) 1 32 _ _ E0.out) ?_; rintro e w' ⟨rfl, ⟨nd, rfl⟩⟩; refine ⟨_, rfl, ?_⟩) | (go_at_call 42; (with_reducible refine (r03_owned.calls Dh B5 B3 B4 B6 B7 B8 B9 Ba Bb Bc _ _ B1 _ _ ?side1 Bl.out E1.out).mono ?_); (case side1 => repeat (first | exact (Kd.C_below Bk.out (by repeat (first | (with_reducible first | exact HB.out | apply ba_ | apply bn_ | apply bd_ | refine bs_ ?_ B2.out) | exact HB.out))) | (with_reducible refine Kd.C_alloc ?_ _) | (with_reducible refine Kd.C_drewN ?_ _) | (with_reducible refine Kd.C_drew ?_))); rintro e w42 ⟨rfl, hb⟩; replace B0 := am_ (blk_below (by (with_reducible repeat (first | apply kn_ | apply kd_ | apply ka_)); exact B0.out) hb); replace HB := am_ (below_step (by repeat (first | (with_reducible first | exact HB.out | apply ba_ | apply bn_ | apply bd_ | refine bs_ ?_ B2.out) | exact HB.out)) hb); (try clear hb)))
         go_ret
         exact ⟨by first | rfl | (simp [*] <;> rfl), by repeat (first | (with_reducible first | exact HB.out | apply ba_ | apply bn_ | apply bd_ | refine bs_ ?_ B2.out) | exact HB.out)⟩
    ·replace Br := Bool.eq_false_iff.mpr Br
     subst Br
     rw [if_neg (show ¬ (false = true) by decide)] at H
     obtain rfl := Option.some.inj H
     have Do := cells_11 B0.out
     have Dp := frozen_11 B0.out
     go_wp2_with (first | ((with_reducible refine gate_callee (f := 41) rfl ?_); refine gom_ (some 23) Try.func41 (r03_within.calls B4 1 4 _ _ Dl.out) ?_; rintro e w' ⟨rfl, ⟨nd, rfl⟩⟩; refine ⟨_, rfl, ?_⟩))
     go_ret
     exact ⟨by first | rfl | (simp [*] <;> rfl), by repeat (first | (with_reducible first | exact HB.out | apply ba_ | apply bn_ | apply bd_ | refine bs_ ?_ B2.out) | exact HB.out)⟩
end Go.Proofs.Ytdnccjlfongdeaa.Gn
