import Derived.Test.YtdnccjlfongdeaaZRoundOnlyGn0
import Derived.Test.YtdnccjlfongdeaaZRoundOnlyGn2
namespace Go.Proofs.Ytdnccjlfongdeaa.Gn
open Go.RowKit Go.Proofs.YtdnccjlfongdeaaW.PrintWords Go.Proofs.YtdnccjlfongdeaaW.PrintLast Go.Proofs.YtdnccjlfongdeaaW.PrintMore
attribute [local go_sem] max2_int min2_int max_two min_two max_three min_three max_four min_four   -- for this text's walks alone
set_option linter.unusedVariables false
set_option linter.unusedSimpArgs false
def conf_span_has.f (B0 B1 a1 : Int) : Option (Bool) := if a1 ≥ B0 then (some (decide (a1 ≤ B1))) else (some false)
set_option maxHeartbeats 8000000 in
set_option maxRecDepth 100000 in
theorem conf_span_has.calls (B0 B2 a1 : Int) (r : Bool) (w : World) (h : conf_span_has.f B0 B2 a1 = some r) :
  Calls Try.prog 44 #[.agg #[.int .i64 B0, .int .i64 B2], .int .i64 a1] w fun e w' => e = .returned (.bool r) ∧ Below w.heap.size w w' := by
 have Bb := Try.underlying71
 have HB := am_ (Below.refl w.heap.size w)
 have H := h
 unfold conf_span_has.f at H
 clear h
 by_cases c3 : a1 ≥ B0
 rw [if_pos c3] at H
 have B5 : decide (B0 ≤ a1) = true := decide_eq_true c3
 rotate_left
 rw [if_neg c3] at H
 have B5 : decide (B0 ≤ a1) = false := decide_eq_false c3
 rotate_left
 all_goals
  clear c3
  obtain rfl := Option.some.inj H
  go_enter Try.func44, Try.ntmps44
  go_wp2_with (first | ((with_reducible refine gate_dst (N := 2) rfl ?_); refine bxe_ 2 71 #[.int .i64 B0, .int .i64 B2] ?_; intro Ba hg w4 hbox hb; have B1 := am_ (hbox); have B3 := gwk_ HB hg; have B4 := B3; replace HB := bst_ HB hb; clear hb hbox hg; obtain ⟨B6, B7⟩ := cells_2 B1.out; obtain ⟨B8, B9⟩ := frozen_2 B1.out))
  go_ret
  exact ⟨by first | rfl | (simp [*] <;> rfl), by repeat (first | (with_reducible first | exact HB.out | apply ba_ | apply bn_ | apply bd_ | refine bs_ ?_ B4.out) | exact HB.out)⟩
def conf_nodes.f (B0 B1 B5 B6 B7 B8 B9 Ba Bb Bc : Int) (B4 : List Int) : Option (Bool) := (conf_span_has.f 4 13 B0).bind fun B2 => (if B2 = true then ((conf_span_has.f 0 4 B1).bind fun B3 => (if B3 = true then (some (decide (B0 > (wrap64 (3 * B1))))) else (some false))) else (some false))
set_option maxHeartbeats 8000000 in
set_option maxRecDepth 100000 in
theorem conf_nodes.calls (Bh Bi Bk Bl Bm Bn Bo Bp Bq Br : Int) (Bb : Option Addr) (Bc : Nat) (B6 : List Int) (r : Bool) (w : World) (Bv : Kd.C (Kd.int .i64) w Bb B6.length B6) (Bw : B6.length ≤ Bc) (h : conf_nodes.f Bh Bi Bk Bl Bm Bn Bo Bp Bq Br B6 = some r) :
  Calls Try.prog 43 #[.agg #[.int .i64 Bh, .int .i64 Bi, .int .i64 Bk, .int .i64 Bl, .int .i64 Bm, .int .i64 Bn, .int .i64 Bo, .int .i64 Bp, .int .i64 Bq, .int .i64 Br, .slice Bb B6.length Bc]] w fun e w' => e = .returned (.bool r) ∧ Below w.heap.size w w' := by
 have F4 := Try.underlying24
 have F5 := Try.underlying71
 have E4 := am_ Bv
 have E5 := am_ Bw
 clear Bv Bw
 have HB := am_ (Below.refl w.heap.size w)
 have H := h
 unfold conf_nodes.f at H
 clear h
 obtain ⟨E6, A2, H⟩ := bes_ H
 try dsimp only at H
 by_cases c3 : E6 = true
 ·subst c3
  rw [if_pos rfl] at H
  obtain ⟨E7, A4, H⟩ := bes_ H
  try dsimp only at H
  by_cases c5 : E7 = true
  ·subst c5
   rw [if_pos rfl] at H
   obtain rfl := Option.some.inj H
   go_enter Try.func43, Try.ntmps43
   go_wp2_with (first | ((with_reducible refine gate_dst (N := 1) rfl ?_); refine bxe_ 1 24 #[.int .i64 Bh, .int .i64 Bi, .int .i64 Bk, .int .i64 Bl, .int .i64 Bm, .int .i64 Bn, .int .i64 Bo, .int .i64 Bp, .int .i64 Bq, .int .i64 Br, .slice Bb B6.length Bc] ?_; intro Bd hg w6 hbox hb; have B0 := am_ (hbox); have Bs := gwk_ HB hg; have Be := Bs; replace HB := bst_ HB hb; clear hb hbox hg) | ((with_reducible refine gate_dst (N := 3) rfl ?_); refine bxe_ 3 71 #[.int .i64 0, .int .i64 0] ?_; intro Bf hg w7 hbox hb; have B1 := am_ (hbox); have Bt := gwk_ HB hg; have Bg := Bt; replace HB := bst_ HB hb; have B2 := nbk_ B0 hg; have B8 := nbs_ B2; replace B0 := bkb_ B0 hb; clear hb hbox hg; have F6 := B8.out; have F7 := B2.out; obtain ⟨E8, E9⟩ := cells_2 B1.out; obtain ⟨Ea, Eb⟩ := frozen_2 B1.out) | ((with_reducible refine gate_dst (N := 4) rfl ?_); refine bxe_ 4 71 #[.int .i64 0, .int .i64 0] ?_; intro B7 hg w10 hbox hb; have Bx := blk_of hb (g := Bd) (o := .cells #[.int .i64 Bh, .int .i64 Bi, .int .i64 Bk, .int .i64 Bl, .int .i64 Bm, .int .i64 Bn, .int .i64 Bo, .int .i64 Bp, .int .i64 Bq, .int .i64 Br, .slice Bb B6.length Bc] 24 (0, 0)) (by (iterate 2 ((with_reducible repeat (first | apply kn_ | apply kd_ | apply ka_)); refine blk_far ?_ B2.out _)); (with_reducible repeat (first | apply kn_ | apply kd_ | apply ka_)); exact B0.out); have By := blk_of hb (g := Bf) (o := .cells #[.int .i64 4, .int .i64 13] 71 (0, 0)) (by (with_reducible repeat (first | apply kn_ | apply kd_ | apply ka_)); refine blk_put (cs := #[.int .i64 4, .int .i64 0]) ?_ 1 _ rfl; (with_reducible repeat (first | apply kn_ | apply kd_ | apply ka_)); refine blk_put (cs := #[.int .i64 0, .int .i64 0]) ?_ 0 _ rfl; (with_reducible repeat (first | apply kn_ | apply kd_ | apply ka_)); exact B1.out); have Bz := below_of hb (by repeat (first | (with_reducible first | exact HB.out | apply ba_ | apply bn_ | apply bd_ | refine bs_ ?_ Be.out | refine bs_ ?_ Bg.out) | exact HB.out)); have B5 := am_ (hbox); have Bu := am_ ((by rw [hg]; exact (below_size Bz) : w.heap.size ≤ B7)); have Bj := Bu; replace HB := am_ (below_step Bz hb); have B3 := am_ ((by rw [hg]; exact Nat.ne_of_lt (blk_lt Bx) : Bd ≠ B7)); have B9 := nbs_ B3; replace B0 := am_ (blk_below Bx hb); have B4 := am_ ((by rw [hg]; exact Nat.ne_of_lt (blk_lt By) : Bf ≠ B7)); have Ba := nbs_ B4; replace B1 := am_ (blk_below By hb); clear Bx By Bz; clear hb hbox hg; have Ec := B9.out; have Ed := B3.out; have Ee := Ba.out; have Ef := B4.out; obtain ⟨D0, D1⟩ := cells_2 B5.out; obtain ⟨D2, D3⟩ := frozen_2 B5.out; obtain ⟨D4, D5⟩ := cells_2 B1.out; obtain ⟨D6, D7⟩ := frozen_2 B1.out; have Eg := cells_11 B0.out; have Eh := frozen_11 B0.out) | ((with_reducible refine gate_callee (f := 44) rfl ?_); refine gom_ (some 10) Try.func44 (conf_span_has.calls 4 13 Bh _ _ A2.out) ?_; rintro e w16 ⟨rfl, hb⟩; refine ⟨_, rfl, ?_⟩; replace B0 := am_ (blk_below (g := Bd) (o := .cells #[.int .i64 Bh, .int .i64 Bi, .int .i64 Bk, .int .i64 Bl, .int .i64 Bm, .int .i64 Bn, .int .i64 Bo, .int .i64 Bp, .int .i64 Bq, .int .i64 Br, .slice Bb B6.length Bc] 24 (0, 0)) (by (iterate 2 ((with_reducible repeat (first | apply kn_ | apply kd_ | apply ka_)); refine blk_far ?_ B3.out _)); (with_reducible repeat (first | apply kn_ | apply kd_ | apply ka_)); exact B0.out) hb); replace B1 := am_ (blk_below (g := Bf) (o := .cells #[.int .i64 4, .int .i64 13] 71 (0, 0)) (by (iterate 2 ((with_reducible repeat (first | apply kn_ | apply kd_ | apply ka_)); refine blk_far ?_ B4.out _)); (with_reducible repeat (first | apply kn_ | apply kd_ | apply ka_)); exact B1.out) hb); replace B5 := am_ (blk_below (g := B7) (o := .cells #[.int .i64 0, .int .i64 4] 71 (0, 0)) (by (with_reducible repeat (first | apply kn_ | apply kd_ | apply ka_)); refine blk_put (cs := #[.int .i64 0, .int .i64 0]) ?_ 1 _ rfl; (with_reducible repeat (first | apply kn_ | apply kd_ | apply ka_)); refine blk_put (cs := #[.int .i64 0, .int .i64 0]) ?_ 0 _ rfl; (with_reducible repeat (first | apply kn_ | apply kd_ | apply ka_)); exact B5.out) hb); replace HB := am_ (below_step (by repeat (first | (with_reducible first | exact HB.out | apply ba_ | apply bn_ | apply bd_ | refine bs_ ?_ Be.out | refine bs_ ?_ Bg.out | refine bs_ ?_ Bj.out) | exact HB.out)) hb); (try clear hb); obtain ⟨D8, D9⟩ := cells_2 B5.out; obtain ⟨Da, Db⟩ := frozen_2 B5.out; have Ei := cells_11 B0.out; have Ej := frozen_11 B0.out) | (go_at_call 44; (with_reducible refine (conf_span_has.calls 0 4 Bi _ _ A4.out).mono ?_); rintro e w19 ⟨rfl, hb⟩; replace B0 := bkb_ B0 hb; replace B1 := bkb_ B1 hb; replace B5 := bkb_ B5 hb; replace HB := bst_ HB hb; (try clear hb); have Ek := cells_11 B0.out; have El := frozen_11 B0.out))
   go_ret
   exact ⟨by first | rfl | (simp [*] <;> rfl), by repeat (first | (with_reducible first | exact HB.out | apply ba_ | apply bn_ | apply bd_ | refine bs_ ?_ Be.out | refine bs_ ?_ Bg.out | refine bs_ ?_ Bj.out) | exact HB.out)⟩
  ·replace c5 := Bool.eq_false_iff.mpr c5
   subst c5
   rw [if_neg (show ¬ (false = true) by decide)] at H
   obtain rfl := Option.some.inj H
   go_enter Try.func43, Try.ntmps43
   go_wp2_with (first | ((with_reducible refine gate_dst (N := 1) rfl ?_); refine bxe_ 1 24 #[.int .i64 Bh, .int .i64 Bi, .int .i64 Bk, .int .i64 Bl, .int .i64 Bm, .int .i64 Bn, .int .i64 Bo, .int .i64 Bp, .int .i64 Bq, .int .i64 Br, .slice Bb B6.length Bc] ?_; intro Bd hg w21 hbox hb; have B0 := am_ (hbox); have Bs := gwk_ HB hg; have Be := Bs; replace HB := bst_ HB hb; clear hb hbox hg) | ((with_reducible refine gate_dst (N := 3) rfl ?_); refine bxe_ 3 71 #[.int .i64 0, .int .i64 0] ?_; intro Bf hg w22 hbox hb; have B1 := am_ (hbox); have Bt := gwk_ HB hg; have Bg := Bt; replace HB := bst_ HB hb; have B2 := nbk_ B0 hg; have B8 := nbs_ B2; replace B0 := bkb_ B0 hb; clear hb hbox hg; have Em := B8.out; have En := B2.out; obtain ⟨Dc, Dd⟩ := cells_2 B1.out; obtain ⟨De, Df⟩ := frozen_2 B1.out) | ((with_reducible refine gate_dst (N := 4) rfl ?_); refine bxe_ 4 71 #[.int .i64 0, .int .i64 0] ?_; intro B7 hg w25 hbox hb; have Bx := blk_of hb (g := Bd) (o := .cells #[.int .i64 Bh, .int .i64 Bi, .int .i64 Bk, .int .i64 Bl, .int .i64 Bm, .int .i64 Bn, .int .i64 Bo, .int .i64 Bp, .int .i64 Bq, .int .i64 Br, .slice Bb B6.length Bc] 24 (0, 0)) (by (iterate 2 ((with_reducible repeat (first | apply kn_ | apply kd_ | apply ka_)); refine blk_far ?_ B2.out _)); (with_reducible repeat (first | apply kn_ | apply kd_ | apply ka_)); exact B0.out); have By := blk_of hb (g := Bf) (o := .cells #[.int .i64 4, .int .i64 13] 71 (0, 0)) (by (with_reducible repeat (first | apply kn_ | apply kd_ | apply ka_)); refine blk_put (cs := #[.int .i64 4, .int .i64 0]) ?_ 1 _ rfl; (with_reducible repeat (first | apply kn_ | apply kd_ | apply ka_)); refine blk_put (cs := #[.int .i64 0, .int .i64 0]) ?_ 0 _ rfl; (with_reducible repeat (first | apply kn_ | apply kd_ | apply ka_)); exact B1.out); have Bz := below_of hb (by repeat (first | (with_reducible first | exact HB.out | apply ba_ | apply bn_ | apply bd_ | refine bs_ ?_ Be.out | refine bs_ ?_ Bg.out) | exact HB.out)); have B5 := am_ (hbox); have Bu := am_ ((by rw [hg]; exact (below_size Bz) : w.heap.size ≤ B7)); have Bj := Bu; replace HB := am_ (below_step Bz hb); have B3 := am_ ((by rw [hg]; exact Nat.ne_of_lt (blk_lt Bx) : Bd ≠ B7)); have B9 := nbs_ B3; replace B0 := am_ (blk_below Bx hb); have B4 := am_ ((by rw [hg]; exact Nat.ne_of_lt (blk_lt By) : Bf ≠ B7)); have Ba := nbs_ B4; replace B1 := am_ (blk_below By hb); clear Bx By Bz; clear hb hbox hg; have Eo := B9.out; have Ep := B3.out; have Eq := Ba.out; have Er := B4.out; obtain ⟨Dg, Dh⟩ := cells_2 B5.out; obtain ⟨Di, Dj⟩ := frozen_2 B5.out; obtain ⟨Dk, Dl⟩ := cells_2 B1.out; obtain ⟨Dm, Dn⟩ := frozen_2 B1.out; have Es := cells_11 B0.out; have Et := frozen_11 B0.out) | ((with_reducible refine gate_callee (f := 44) rfl ?_); refine gom_ (some 10) Try.func44 (conf_span_has.calls 4 13 Bh _ _ A2.out) ?_; rintro e w31 ⟨rfl, hb⟩; refine ⟨_, rfl, ?_⟩; replace B0 := am_ (blk_below (g := Bd) (o := .cells #[.int .i64 Bh, .int .i64 Bi, .int .i64 Bk, .int .i64 Bl, .int .i64 Bm, .int .i64 Bn, .int .i64 Bo, .int .i64 Bp, .int .i64 Bq, .int .i64 Br, .slice Bb B6.length Bc] 24 (0, 0)) (by (iterate 2 ((with_reducible repeat (first | apply kn_ | apply kd_ | apply ka_)); refine blk_far ?_ B3.out _)); (with_reducible repeat (first | apply kn_ | apply kd_ | apply ka_)); exact B0.out) hb); replace B1 := am_ (blk_below (g := Bf) (o := .cells #[.int .i64 4, .int .i64 13] 71 (0, 0)) (by (iterate 2 ((with_reducible repeat (first | apply kn_ | apply kd_ | apply ka_)); refine blk_far ?_ B4.out _)); (with_reducible repeat (first | apply kn_ | apply kd_ | apply ka_)); exact B1.out) hb); replace B5 := am_ (blk_below (g := B7) (o := .cells #[.int .i64 0, .int .i64 4] 71 (0, 0)) (by (with_reducible repeat (first | apply kn_ | apply kd_ | apply ka_)); refine blk_put (cs := #[.int .i64 0, .int .i64 0]) ?_ 1 _ rfl; (with_reducible repeat (first | apply kn_ | apply kd_ | apply ka_)); refine blk_put (cs := #[.int .i64 0, .int .i64 0]) ?_ 0 _ rfl; (with_reducible repeat (first | apply kn_ | apply kd_ | apply ka_)); exact B5.out) hb); replace HB := am_ (below_step (by repeat (first | (with_reducible first | exact HB.out | apply ba_ | apply bn_ | apply bd_ | refine bs_ ?_ Be.out | refine bs_ ?_ Bg.out | refine bs_ ?_ Bj.out) | exact HB.out)) hb); (try clear hb); obtain ⟨Do, Dp⟩ := cells_2 B5.out; obtain ⟨Dq, Dr⟩ := frozen_2 B5.out; have Eu := cells_11 B0.out; have Ev := frozen_11 B0.out) | (go_at_call 44; (with_reducible refine (conf_span_has.calls 0 4 Bi _ _ A4.out).mono ?_); rintro e w34 ⟨rfl, hb⟩; replace B0 := bkb_ B0 hb; replace B1 := bkb_ B1 hb; replace B5 := bkb_ B5 hb; replace HB := bst_ HB hb; (try clear hb)))
   go_ret
   exact ⟨by first | rfl | (simp [*] <;> rfl), by repeat (first | (with_reducible first | exact HB.out | apply ba_ | apply bn_ | apply bd_ | refine bs_ ?_ Be.out | refine bs_ ?_ Bg.out | refine bs_ ?_ Bj.out) | exact HB.out)⟩
 ·replace c3 := Bool.eq_false_iff.mpr c3
  subst c3
  rw [if_neg (show ¬ (false = true) by decide)] at H
  obtain rfl := Option.some.inj H
  go_enter Try.func43, Try.ntmps43
  go_wp2_with (first | ((with_reducible refine gate_dst (N := 1) rfl ?_); refine bxe_ 1 24 #[.int .i64 Bh, .int .i64 Bi, .int .i64 Bk, .int .i64 Bl, .int .i64 Bm, .int .i64 Bn, .int .i64 Bo, .int .i64 Bp, .int .i64 Bq, .int .i64 Br, .slice Bb B6.length Bc] ?_; intro Bd hg w35 hbox hb; have B0 := am_ (hbox); have Bs := gwk_ HB hg; have Be := Bs; replace HB := bst_ HB hb; clear hb hbox hg) | ((with_reducible refine gate_dst (N := 3) rfl ?_); refine bxe_ 3 71 #[.int .i64 0, .int .i64 0] ?_; intro Bf hg w36 hbox hb; have B1 := am_ (hbox); have Bt := gwk_ HB hg; have Bg := Bt; replace HB := bst_ HB hb; have B2 := nbk_ B0 hg; have B8 := nbs_ B2; replace B0 := bkb_ B0 hb; clear hb hbox hg; have Ew := B8.out; have Ex := B2.out; obtain ⟨Ds, Dt⟩ := cells_2 B1.out; obtain ⟨Du, Dv⟩ := frozen_2 B1.out) | ((with_reducible refine gate_dst (N := 4) rfl ?_); refine bxe_ 4 71 #[.int .i64 0, .int .i64 0] ?_; intro B7 hg w39 hbox hb; have Bx := blk_of hb (g := Bd) (o := .cells #[.int .i64 Bh, .int .i64 Bi, .int .i64 Bk, .int .i64 Bl, .int .i64 Bm, .int .i64 Bn, .int .i64 Bo, .int .i64 Bp, .int .i64 Bq, .int .i64 Br, .slice Bb B6.length Bc] 24 (0, 0)) (by (iterate 2 ((with_reducible repeat (first | apply kn_ | apply kd_ | apply ka_)); refine blk_far ?_ B2.out _)); (with_reducible repeat (first | apply kn_ | apply kd_ | apply ka_)); exact B0.out); have By := blk_of hb (g := Bf) (o := .cells #[.int .i64 4, .int .i64 13] 71 (0, 0)) (by (with_reducible repeat (first | apply kn_ | apply kd_ | apply ka_)); refine blk_put (cs := #[.int .i64 4, .int .i64 0]) ?_ 1 _ rfl; (with_reducible repeat (first | apply kn_ | apply kd_ | apply ka_)); refine blk_put (cs := #[.int .i64 0, .int .i64 0]) ?_ 0 _ rfl; (with_reducible repeat (first | apply kn_ | apply kd_ | apply ka_)); exact B1.out); have Bz := below_of hb (by repeat (first | (with_reducible first | exact HB.out | apply ba_ | apply bn_ | apply bd_ | refine bs_ ?_ Be.out | refine bs_ ?_ Bg.out) | exact HB.out)); have B5 := am_ (hbox); have Bu := am_ ((by rw [hg]; exact (below_size Bz) : w.heap.size ≤ B7)); have Bj := Bu; replace HB := am_ (below_step Bz hb); have B3 := am_ ((by rw [hg]; exact Nat.ne_of_lt (blk_lt Bx) : Bd ≠ B7)); have B9 := nbs_ B3; replace B0 := am_ (blk_below Bx hb); have B4 := am_ ((by rw [hg]; exact Nat.ne_of_lt (blk_lt By) : Bf ≠ B7)); have Ba := nbs_ B4; replace B1 := am_ (blk_below By hb); clear Bx By Bz; clear hb hbox hg; have Ey := B9.out; have Ez := B3.out; have F0 := Ba.out; have F1 := B4.out; obtain ⟨Dw, Dx⟩ := cells_2 B5.out; obtain ⟨Dy, Dz⟩ := frozen_2 B5.out; obtain ⟨E0, E1⟩ := cells_2 B1.out; obtain ⟨E2, E3⟩ := frozen_2 B1.out; have F2 := cells_11 B0.out; have F3 := frozen_11 B0.out) | ((with_reducible refine gate_callee (f := 44) rfl ?_); refine gom_ (some 10) Try.func44 (conf_span_has.calls 4 13 Bh _ _ A2.out) ?_; rintro e w45 ⟨rfl, hb⟩; refine ⟨_, rfl, ?_⟩; replace B0 := am_ (blk_below (g := Bd) (o := .cells #[.int .i64 Bh, .int .i64 Bi, .int .i64 Bk, .int .i64 Bl, .int .i64 Bm, .int .i64 Bn, .int .i64 Bo, .int .i64 Bp, .int .i64 Bq, .int .i64 Br, .slice Bb B6.length Bc] 24 (0, 0)) (by (iterate 2 ((with_reducible repeat (first | apply kn_ | apply kd_ | apply ka_)); refine blk_far ?_ B3.out _)); (with_reducible repeat (first | apply kn_ | apply kd_ | apply ka_)); exact B0.out) hb); replace B1 := am_ (blk_below (g := Bf) (o := .cells #[.int .i64 4, .int .i64 13] 71 (0, 0)) (by (iterate 2 ((with_reducible repeat (first | apply kn_ | apply kd_ | apply ka_)); refine blk_far ?_ B4.out _)); (with_reducible repeat (first | apply kn_ | apply kd_ | apply ka_)); exact B1.out) hb); replace B5 := am_ (blk_below (g := B7) (o := .cells #[.int .i64 0, .int .i64 4] 71 (0, 0)) (by (with_reducible repeat (first | apply kn_ | apply kd_ | apply ka_)); refine blk_put (cs := #[.int .i64 0, .int .i64 0]) ?_ 1 _ rfl; (with_reducible repeat (first | apply kn_ | apply kd_ | apply ka_)); refine blk_put (cs := #[.int .i64 0, .int .i64 0]) ?_ 0 _ rfl; (with_reducible repeat (first | apply kn_ | apply kd_ | apply ka_)); exact B5.out) hb); replace HB := am_ (below_step (by repeat (first | (with_reducible first | exact HB.out | apply ba_ | apply bn_ | apply bd_ | refine bs_ ?_ Be.out | refine bs_ ?_ Bg.out | refine bs_ ?_ Bj.out) | exact HB.out)) hb); (try clear hb)))
  go_ret
  exact ⟨by first | rfl | (simp [*] <;> rfl), by repeat (first | (with_reducible first | exact HB.out | apply ba_ | apply bn_ | apply bd_ | refine bs_ ?_ Be.out | refine bs_ ?_ Bg.out | refine bs_ ?_ Bj.out) | exact HB.out)⟩
def conf_numbers.l0 : Nat → List (S77) → Int → Int → Option (Bool)
 | 0, _, _, _ => none
 | k + 1, B1, B3, B0 => if B0 < B3 then (if 0 ≤ B0 then (if B0 < (B1.length : Int) then ((conf_span_has.f ((rd_T77 B1 B0).f1.f0) ((rd_T77 B1 B0).f1.f1) ((rd_T77 B1 B0).f0)).bind fun B2 => (if B2 = true then (conf_numbers.l0 k B1 B3 (wrap64 (B0 + 1))) else (some false))) else (none)) else (none)) else (some true)
def conf_numbers.f (k : Nat) (Bb B2 B3 B4 B0 B5 B6 B7 B8 B9 : Int) (Ba : List Int) : Option (Bool) := (some (([(⟨B4, (⟨wrap64 ((wrap64 ((wrap64 (6 * (wrap64 (B2 + 1)))) * B3)) + 1), 400⟩ : S71)⟩ : S77), (⟨B0, (⟨1, 64⟩ : S71)⟩ : S77), (⟨B5, (⟨0, wrap64 (B0 - 1)⟩ : S71)⟩ : S77), (⟨B6, (⟨0, 30000⟩ : S71)⟩ : S77), (⟨B7, (⟨1, 30000⟩ : S71)⟩ : S77), (⟨B8, (⟨2, 250⟩ : S71)⟩ : S77), (⟨B9, (⟨1, 100⟩ : S71)⟩ : S77)] : List (S77)) : List (S77))).bind fun B1 => (conf_numbers.l0 k B1 (B1.length : Int) 0)
theorem conf_numbers.mono_l : ∀ k, (∀ y0 y1 y2, LeO (conf_numbers.l0 k y0 y1 y2) (conf_numbers.l0 (k + 1) y0 y1 y2))
 | 0 => fun _ _ _ r h => by simp [conf_numbers.l0] at h
 | k + 1 => by
  have B0 := conf_numbers.mono_l k
  ·intro y0 y1 y2
   unfold conf_numbers.l0
   repeat' first
   | (with_reducible exact B0 _ _ _)
   | (with_reducible exact LeO.refl _)
   | (with_reducible exact LeO.none _)
   | (with_reducible refine LeO.ite ?_ ?_)
   | (with_reducible refine LeO.bind ?_ (fun _ => ?_))
   | exact B0 _ _ _
   | exact LeO.none _
   | refine LeO.ite ?_ ?_
   | refine LeO.bind ?_ (fun _ => ?_)
theorem conf_numbers.mono : ∀ a0 a1 a2 a3 a4 a5 a6 a7 a8 a9 B0 k, LeO (conf_numbers.f k a0 a1 a2 a3 a4 a5 a6 a7 a8 a9 B0) (conf_numbers.f (k + 1) a0 a1 a2 a3 a4 a5 a6 a7 a8 a9 B0) := by
 intro a0 a1 a2 a3 a4 a5 a6 a7 a8 a9 B0 k
 have B1 := conf_numbers.mono_l k
 unfold conf_numbers.f
 repeat' first
   | (with_reducible exact B1 _ _ _)
   | (with_reducible exact LeO.refl _)
   | (with_reducible exact LeO.none _)
   | (with_reducible refine LeO.ite ?_ ?_)
   | (with_reducible refine LeO.bind ?_ (fun _ => ?_))
   | exact B1 _ _ _
   | exact LeO.none _
   | refine LeO.ite ?_ ?_
   | refine LeO.bind ?_ (fun _ => ?_)
set_option maxHeartbeats 8000000 in
set_option maxRecDepth 100000 in
theorem conf_numbers.calls (k : Nat) (Bn B9 Ba Bb B4 Bc Bd Be Bf Bg : Int) (Bh : Option Addr) (Bi : Nat) (B6 : List Int) (r : Bool) (w : World) (Bo : Kd.C (Kd.int .i64) w Bh B6.length B6) (Bp : B6.length ≤ Bi) (h : conf_numbers.f k Bn B9 Ba Bb B4 Bc Bd Be Bf Bg B6 = some r) :
  Calls Try.prog 45 #[.agg #[.int .i64 Bn, .int .i64 B9, .int .i64 Ba, .int .i64 Bb, .int .i64 B4, .int .i64 Bc, .int .i64 Bd, .int .i64 Be, .int .i64 Bf, .int .i64 Bg, .slice Bh B6.length Bi]] w fun e w' => e = .returned (.bool r) ∧ Below w.heap.size w w' := by
 have Dr := Try.underlying24
 have Ds := Try.underlying71
 have Dt := Try.underlying77
 have De := am_ Bo
 have Df := am_ Bp
 clear Bo Bp
 have HB := am_ (Below.refl w.heap.size w)
 have H := h
 unfold conf_numbers.f at H
 clear h
 obtain ⟨y402, hy402⟩ : ∃ y_ : List (S77), y_ = (([(⟨Bb, (⟨wrap64 ((wrap64 ((wrap64 (6 * (wrap64 (B9 + 1)))) * Ba)) + 1), 400⟩ : S71)⟩ : S77), (⟨B4, (⟨1, 64⟩ : S71)⟩ : S77), (⟨Bc, (⟨0, wrap64 (B4 - 1)⟩ : S71)⟩ : S77), (⟨Bd, (⟨0, 30000⟩ : S71)⟩ : S77), (⟨Be, (⟨1, 30000⟩ : S71)⟩ : S77), (⟨Bf, (⟨2, 250⟩ : S71)⟩ : S77), (⟨Bg, (⟨1, 100⟩ : S71)⟩ : S77)] : List (S77))) := ⟨_, rfl⟩
 replace H : (conf_numbers.l0 k y402 (y402.length : Int) 0) = some r := by first | (rw [hy402]; with_reducible exact H) | (have Dg := (Option.bind_some _ _).symm.trans H; rw [hy402]; with_reducible exact Dg) | (have Dg := (Option.bind_some _ _).symm.trans H; with_reducible exact Dg) | with_reducible exact H | (rw [hy402]; exact H) | exact H
 have Bv := am_ hy402
 clear hy402
 have H' := am_ H
 clear H
 go_enter Try.func45, Try.ntmps45
 go_wp2_with (first | ((with_reducible refine gate_dst (N := 1) rfl ?_); refine bxe_ 1 24 #[.int .i64 Bn, .int .i64 B9, .int .i64 Ba, .int .i64 Bb, .int .i64 B4, .int .i64 Bc, .int .i64 Bd, .int .i64 Be, .int .i64 Bf, .int .i64 Bg, .slice Bh B6.length Bi] ?_; intro Bq hg w2 hbox hb; have B2 := am_ (hbox); have By := gwk_ HB hg; have Bj := By; replace HB := bst_ HB hb; clear hb hbox hg; have Dh := cells_11 B2.out; have Di := frozen_11 B2.out) | ((with_reducible refine gate_dst (N := 44) rfl ?_); refine Kd.R_lit k77 _ 77 ?hg (N := 44) ?hd (xs := ([(⟨Bb, (⟨wrap64 ((wrap64 ((wrap64 (6 * (wrap64 (B9 + 1)))) * Ba)) + 1), 400⟩ : S71)⟩ : S77), (⟨B4, (⟨1, 64⟩ : S71)⟩ : S77), (⟨Bc, (⟨0, wrap64 (B4 - 1)⟩ : S71)⟩ : S77), (⟨Bd, (⟨0, 30000⟩ : S71)⟩ : S77), (⟨Be, (⟨1, 30000⟩ : S71)⟩ : S77), (⟨Bf, (⟨2, 250⟩ : S71)⟩ : S77), (⟨Bg, (⟨1, 100⟩ : S71)⟩ : S77)] : List (S77))) (inner := [.int .i64 Bb, .int .i64 (wrap64 ((wrap64 ((wrap64 (6 * (wrap64 (B9 + 1)))) * Ba)) + 1)), .int .i64 400, .int .i64 B4, .int .i64 1, .int .i64 64, .int .i64 Bc, .int .i64 0, .int .i64 (wrap64 (B4 - 1)), .int .i64 Bd, .int .i64 0, .int .i64 30000, .int .i64 Be, .int .i64 1, .int .i64 30000, .int .i64 Bf, .int .i64 2, .int .i64 250, .int .i64 Bg, .int .i64 1, .int .i64 100]) (ok := fun _ => True) (okp := fun _ => True) ?hr ?hp (fun _ hk => hk) trivial (Below.refl _ _) (Nat.le_refl _) (by simp) ?_; (case hd => rfl); (case hg => rfl); (case hr => first | (go_simp; done) | (go_simp; rfl)); (case hp => exact (Reps.c3 (show Kd.M k77 _ _ _ (⟨Bb, (⟨wrap64 ((wrap64 ((wrap64 (6 * (wrap64 (B9 + 1)))) * Ba)) + 1), 400⟩ : S71)⟩ : S77) [.int .i64 Bb, .int .i64 (wrap64 ((wrap64 ((wrap64 (6 * (wrap64 (B9 + 1)))) * Ba)) + 1)), .int .i64 400] from (k77_mkM _ _ _ (⟨Bb, (⟨wrap64 ((wrap64 ((wrap64 (6 * (wrap64 (B9 + 1)))) * Ba)) + 1), 400⟩ : S71)⟩ : S77) )) (Reps.c3 (show Kd.M k77 _ _ _ (⟨B4, (⟨1, 64⟩ : S71)⟩ : S77) [.int .i64 B4, .int .i64 1, .int .i64 64] from (k77_mkM _ _ _ (⟨B4, (⟨1, 64⟩ : S71)⟩ : S77) )) (Reps.c3 (show Kd.M k77 _ _ _ (⟨Bc, (⟨0, wrap64 (B4 - 1)⟩ : S71)⟩ : S77) [.int .i64 Bc, .int .i64 0, .int .i64 (wrap64 (B4 - 1))] from (k77_mkM _ _ _ (⟨Bc, (⟨0, wrap64 (B4 - 1)⟩ : S71)⟩ : S77) )) (Reps.c3 (show Kd.M k77 _ _ _ (⟨Bd, (⟨0, 30000⟩ : S71)⟩ : S77) [.int .i64 Bd, .int .i64 0, .int .i64 30000] from (k77_mkM _ _ _ (⟨Bd, (⟨0, 30000⟩ : S71)⟩ : S77) )) (Reps.c3 (show Kd.M k77 _ _ _ (⟨Be, (⟨1, 30000⟩ : S71)⟩ : S77) [.int .i64 Be, .int .i64 1, .int .i64 30000] from (k77_mkM _ _ _ (⟨Be, (⟨1, 30000⟩ : S71)⟩ : S77) )) (Reps.c3 (show Kd.M k77 _ _ _ (⟨Bf, (⟨2, 250⟩ : S71)⟩ : S77) [.int .i64 Bf, .int .i64 2, .int .i64 250] from (k77_mkM _ _ _ (⟨Bf, (⟨2, 250⟩ : S71)⟩ : S77) )) (Reps.c3 (show Kd.M k77 _ _ _ (⟨Bg, (⟨1, 100⟩ : S71)⟩ : S77) [.int .i64 Bg, .int .i64 1, .int .i64 100] from (k77_mkM _ _ _ (⟨Bg, (⟨1, 100⟩ : S71)⟩ : S77) )) (Reps.none _ _))))))))); intro v403 w4 Bz hb hg_ hnew_; clear hg_ hnew_; (first | rw [← Bv.out] at Bz | (simp only [Int.reduceToNat] at Bz; rw [← Bv.out] at Bz)); have Bw := am_ (Kd.R_lower Bz (below_size HB.out)); replace B2 := bkb_ B2 hb; replace HB := bst_ HB hb; clear hb Bz; obtain ⟨Du, Dv, Dw⟩ := Kd.R_slice Bw.out; subst Dw))
 go_loopg [46] k (fun kq v46 w' => ∃ (B0 : Int), v46 = .int .i64 B0 ∧ Aside0 (conf_numbers.l0 kq y402 (y402.length : Int) B0 = some r) ∧ Aside0 (kq ≤ k) ∧ Aside0 (Kd.R k77 77 w' w.heap.size (fun _ => True) (.slice Du y402.length Dv) y402) ∧ Aside0 (w'.heap[Bq]? = some (.cells #[.int .i64 Bn, .int .i64 B9, .int .i64 Ba, .int .i64 Bb, .int .i64 B4, .int .i64 Bc, .int .i64 Bd, .int .i64 Be, .int .i64 Bf, .int .i64 Bg, (.slice Bh B6.length Bi)] 24 (0, 0))) ∧ Aside0 (Below w.heap.size w w'))
 case atStart => exact ⟨(0), (by first | rfl | (simp; done) | (simp [*]; done)), H', ⟨Nat.le_refl _⟩, ⟨by (with_reducible repeat (first | apply Kd.R_alloc | apply Kd.R_drewN | apply Kd.R_drew)); exact Bw.out⟩, ⟨by (with_reducible repeat (first | apply kn_ | apply kd_ | apply ka_)); exact B2.out⟩, ⟨by repeat (first | (with_reducible first | exact HB.out | apply ba_ | apply bn_ | apply bd_ | refine bs_ ?_ Bj.out) | exact HB.out)⟩⟩
 case round =>
  clear H'
  try clear p2
  try clear c3
  try clear c4
  try clear p6
  try clear Dh
  try clear Di
  obtain ⟨B0, rfl, HA, Dl, B5, B2, HB⟩ := hrel
  cases gk with
  | zero => exact absurd HA.out (by simp [conf_numbers.l0])
  | succ k1 =>
   have H := HA.out
   clear HA
   simp only [conf_numbers.l0] at H
   by_cases c7 : B0 < (y402.length : Int)
   ·rw [if_pos c7] at H
    have Dj : decide (B0 < (y402.length : Int)) = true := decide_eq_true c7
    clear c7
    by_cases c8 : 0 ≤ B0
    ·rw [if_pos c8] at H
     have Dx : decide (0 ≤ B0) = true := decide_eq_true c8
     clear c8
     by_cases c9 : B0 < (y402.length : Int)
     ·rw [if_pos c9] at H
      have Dy : decide (B0 < (y402.length : Int)) = true := decide_eq_true c9
      clear c9
      obtain ⟨Dk, Dm, H⟩ := bes_ H
      try dsimp only at H
      by_cases D1 : Dk = true
      ·subst D1
       rw [if_pos rfl] at H
       have H' := am_ H
       clear H
       have Bl : 0 ≤ (B0 : Int) := of_decide_eq_true (by first | (with_reducible assumption) | assumption)
       have Bm : B0 < (y402.length : Int) := of_decide_eq_true (by first | (with_reducible assumption) | assumption)
       obtain ⟨D0, Bx, Bs, Bt, Bu⟩ := at_T77 (Kd.R_reads' B5.out).2.2 B0 Bl Bm
       cases Bx
       replace Bl := eq_true Bl
       replace Bm := eq_true Bm
       go_wp2_with (first | ((with_reducible refine gate_dst (N := 4) rfl ?_); refine bxe_ 4 77 #[.int .i64 0, .int .i64 0, .int .i64 0] ?_; intro B3 hg w12 hbox hb; replace B5 := am_ (Kd.R_below (Kd.R_elderB (by (with_reducible repeat (first | apply Kd.R_alloc | apply Kd.R_drewN | apply Kd.R_drew)); exact B5.out) B3 (Nat.le_of_eq hg.symm)) hb); have B7 := am_ (hbox); have Br := gwk_ HB hg; have Bk := Br; replace HB := bst_ HB hb; have B1 := nbk_ B2 hg; have B8 := nbs_ B1; replace B2 := bkb_ B2 hb; clear hb hbox hg; have Dn := B8.out; have Do := B1.out; obtain ⟨D2, D3, D4⟩ := cells_3 B7.out; obtain ⟨D5, D6, D7⟩ := frozen_3 B7.out) | ((with_reducible refine gate_callee (f := 44) rfl ?_); refine gom_ (some 54) Try.func44 (conf_span_has.calls ((rd_T77 y402 B0).f1.f0) ((rd_T77 y402 B0).f1.f1) ((rd_T77 y402 B0).f0) _ _ Dm.out) ?_; rintro e w15 ⟨rfl, hb⟩; refine ⟨_, rfl, ?_⟩; replace B5 := am_ (Kd.R_below (by (with_reducible repeat (first | apply Kd.R_alloc | apply Kd.R_drewN | apply Kd.R_drew)); exact (Kd.R_mono (Kd.R_far (p := ⟨B3, 2, none⟩) (Kd.R_far (p := ⟨B3, 1, none⟩) (Kd.R_far (p := ⟨B3, 0, none⟩) (Kd.R_mono B5.out (fun k_ hk => (⟨hk, hk.2⟩ : _ ∧ k_ ≠ B3))) (fun _ hk => hk.2) (.int .i64 ((rd_T77 y402 B0).f0))) (fun _ hk => hk.2) (.int .i64 ((rd_T77 y402 B0).f1.f0))) (fun _ hk => hk.2) (.int .i64 ((rd_T77 y402 B0).f1.f1))) (fun _ h_ => h_.1))) hb); replace B2 := am_ (blk_below (g := Bq) (o := .cells #[.int .i64 Bn, .int .i64 B9, .int .i64 Ba, .int .i64 Bb, .int .i64 B4, .int .i64 Bc, .int .i64 Bd, .int .i64 Be, .int .i64 Bf, .int .i64 Bg, .slice Bh B6.length Bi] 24 (0, 0)) (by (iterate 3 ((with_reducible repeat (first | apply kn_ | apply kd_ | apply ka_)); refine blk_far ?_ B1.out _)); (with_reducible repeat (first | apply kn_ | apply kd_ | apply ka_)); exact B2.out) hb); replace B7 := am_ (blk_below (g := B3) (o := .cells #[.int .i64 ((rd_T77 y402 B0).f0), .int .i64 ((rd_T77 y402 B0).f1.f0), .int .i64 ((rd_T77 y402 B0).f1.f1)] 77 (0, 0)) (by (with_reducible repeat (first | apply kn_ | apply kd_ | apply ka_)); refine blk_put (cs := #[.int .i64 ((rd_T77 y402 B0).f0), .int .i64 ((rd_T77 y402 B0).f1.f0), .int .i64 0]) ?_ 2 _ rfl; (with_reducible repeat (first | apply kn_ | apply kd_ | apply ka_)); refine blk_put (cs := #[.int .i64 ((rd_T77 y402 B0).f0), .int .i64 0, .int .i64 0]) ?_ 1 _ rfl; (with_reducible repeat (first | apply kn_ | apply kd_ | apply ka_)); refine blk_put (cs := #[.int .i64 0, .int .i64 0, .int .i64 0]) ?_ 0 _ rfl; (with_reducible repeat (first | apply kn_ | apply kd_ | apply ka_)); exact B7.out) hb); replace HB := am_ (below_step (by repeat (first | (with_reducible first | exact HB.out | apply ba_ | apply bn_ | apply bd_ | refine bs_ ?_ Bj.out | refine bs_ ?_ Bk.out) | exact HB.out)) hb); (try clear hb); (try clear hk)))
       go_roundg k1
       case measure => have := Dl.out; omega
       case rel => exact ⟨(wrap64 (B0 + 1)), (by first | rfl | (simp; done) | (simp [*]; done)), H', ⟨by have := Dl.out; omega⟩, ⟨by (with_reducible repeat (first | apply Kd.R_alloc | apply Kd.R_drewN | apply Kd.R_drew)); exact Kd.R_mono B5.out (fun _ hk => trivial)⟩, ⟨by (with_reducible repeat (first | apply kn_ | apply kd_ | apply ka_)); exact B2.out⟩, ⟨by repeat (first | (with_reducible first | exact HB.out | apply ba_ | apply bn_ | apply bd_ | refine bs_ ?_ Bj.out | refine bs_ ?_ Bk.out) | exact HB.out)⟩⟩
      ·replace D1 := Bool.eq_false_iff.mpr D1
       subst D1
       rw [if_neg (show ¬ (false = true) by decide)] at H
       obtain rfl := Option.some.inj H
       have Bl : 0 ≤ (B0 : Int) := of_decide_eq_true (by first | (with_reducible assumption) | assumption)
       have Bm : B0 < (y402.length : Int) := of_decide_eq_true (by first | (with_reducible assumption) | assumption)
       obtain ⟨D0, Bx, Bs, Bt, Bu⟩ := at_T77 (Kd.R_reads' B5.out).2.2 B0 Bl Bm
       cases Bx
       replace Bl := eq_true Bl
       replace Bm := eq_true Bm
       go_wp2_with (first | ((with_reducible refine gate_dst (N := 4) rfl ?_); refine bxe_ 4 77 #[.int .i64 0, .int .i64 0, .int .i64 0] ?_; intro B3 hg w16 hbox hb; replace B5 := am_ (Kd.R_below (Kd.R_elderB (by (with_reducible repeat (first | apply Kd.R_alloc | apply Kd.R_drewN | apply Kd.R_drew)); exact B5.out) B3 (Nat.le_of_eq hg.symm)) hb); have B7 := am_ (hbox); have Br := gwk_ HB hg; have Bk := Br; replace HB := bst_ HB hb; have B1 := nbk_ B2 hg; have B8 := nbs_ B1; replace B2 := bkb_ B2 hb; clear hb hbox hg; have Dp := B8.out; have Dq := B1.out; obtain ⟨D8, D9, Da⟩ := cells_3 B7.out; obtain ⟨Db, Dc, Dd⟩ := frozen_3 B7.out) | ((with_reducible refine gate_callee (f := 44) rfl ?_); refine gom_ (some 54) Try.func44 (conf_span_has.calls ((rd_T77 y402 B0).f1.f0) ((rd_T77 y402 B0).f1.f1) ((rd_T77 y402 B0).f0) _ _ Dm.out) ?_; rintro e w19 ⟨rfl, hb⟩; refine ⟨_, rfl, ?_⟩; replace B5 := am_ (Kd.R_below (by (with_reducible repeat (first | apply Kd.R_alloc | apply Kd.R_drewN | apply Kd.R_drew)); exact (Kd.R_mono (Kd.R_far (p := ⟨B3, 2, none⟩) (Kd.R_far (p := ⟨B3, 1, none⟩) (Kd.R_far (p := ⟨B3, 0, none⟩) (Kd.R_mono B5.out (fun k_ hk => (⟨hk, hk.2⟩ : _ ∧ k_ ≠ B3))) (fun _ hk => hk.2) (.int .i64 ((rd_T77 y402 B0).f0))) (fun _ hk => hk.2) (.int .i64 ((rd_T77 y402 B0).f1.f0))) (fun _ hk => hk.2) (.int .i64 ((rd_T77 y402 B0).f1.f1))) (fun _ h_ => h_.1))) hb); replace B2 := am_ (blk_below (g := Bq) (o := .cells #[.int .i64 Bn, .int .i64 B9, .int .i64 Ba, .int .i64 Bb, .int .i64 B4, .int .i64 Bc, .int .i64 Bd, .int .i64 Be, .int .i64 Bf, .int .i64 Bg, .slice Bh B6.length Bi] 24 (0, 0)) (by (iterate 3 ((with_reducible repeat (first | apply kn_ | apply kd_ | apply ka_)); refine blk_far ?_ B1.out _)); (with_reducible repeat (first | apply kn_ | apply kd_ | apply ka_)); exact B2.out) hb); replace B7 := am_ (blk_below (g := B3) (o := .cells #[.int .i64 ((rd_T77 y402 B0).f0), .int .i64 ((rd_T77 y402 B0).f1.f0), .int .i64 ((rd_T77 y402 B0).f1.f1)] 77 (0, 0)) (by (with_reducible repeat (first | apply kn_ | apply kd_ | apply ka_)); refine blk_put (cs := #[.int .i64 ((rd_T77 y402 B0).f0), .int .i64 ((rd_T77 y402 B0).f1.f0), .int .i64 0]) ?_ 2 _ rfl; (with_reducible repeat (first | apply kn_ | apply kd_ | apply ka_)); refine blk_put (cs := #[.int .i64 ((rd_T77 y402 B0).f0), .int .i64 0, .int .i64 0]) ?_ 1 _ rfl; (with_reducible repeat (first | apply kn_ | apply kd_ | apply ka_)); refine blk_put (cs := #[.int .i64 0, .int .i64 0, .int .i64 0]) ?_ 0 _ rfl; (with_reducible repeat (first | apply kn_ | apply kd_ | apply ka_)); exact B7.out) hb); replace HB := am_ (below_step (by repeat (first | (with_reducible first | exact HB.out | apply ba_ | apply bn_ | apply bd_ | refine bs_ ?_ Bj.out | refine bs_ ?_ Bk.out) | exact HB.out)) hb); (try clear hb); (try clear hk)))
       go_ret
       exact ⟨by first | rfl | (simp [*] <;> rfl), by repeat (first | (with_reducible first | exact HB.out | apply ba_ | apply bn_ | apply bd_ | refine bs_ ?_ Bj.out | refine bs_ ?_ Bk.out) | exact HB.out)⟩
     ·rw [if_neg c9] at H
      exact absurd H (by simp)
    ·rw [if_neg c8] at H
     exact absurd H (by simp)
   ·rw [if_neg c7] at H
    have Dj : decide (B0 < (y402.length : Int)) = false := decide_eq_false c7
    clear c7
    obtain rfl := Option.some.inj H
    go_wp2
    go_ret
    exact ⟨by first | rfl | (simp [*] <;> rfl), by repeat (first | (with_reducible first | exact HB.out | apply ba_ | apply bn_ | apply bd_ | refine bs_ ?_ Bj.out) | exact HB.out)⟩
def tblCnt (l : List Int) (i : Nat) : Int := ((l.filter fun n => n == (i : Int)).length : Nat)
def tblArr (l : List Int) : Array Value := ((List.range 13).map fun i => Value.int .i64 (tblCnt l i)).toArray
theorem tblCnt_range (l : List Int) (i : Nat) : 0 ≤ tblCnt l i ∧ tblCnt l i ≤ l.length := by
 unfold tblCnt
 exact ⟨by omega, by have := List.length_filter_le (fun n => n == (i : Int)) l; omega⟩
theorem tblArr_get (l : List Int) (i : Nat) (h : i < 13) : (tblArr l)[i]? = some (.int .i64 (tblCnt l i)) := by
 unfold tblArr
 simp [h]
theorem tblCnt_snoc (l : List Int) (n : Int) (i : Nat) : tblCnt (l ++ [n]) i = if n = (i : Int) then tblCnt l i + 1 else tblCnt l i := by
 unfold tblCnt
 by_cases h : n = (i : Int) <;> simp [List.filter_append, h]
theorem tblArr_snoc (l : List Int) (n : Int) (h0 : 0 ≤ n) (h1 : n < 13) : (tblArr l).setIfInBounds n.toNat (.int .i64 (tblCnt l n.toNat + 1)) = tblArr (l ++ [n]) := by
 apply Array.ext_getElem?
 intro i
 rw [Array.getElem?_setIfInBounds]
 have hs : (tblArr l).size = 13 := by simp [tblArr]
 have hs' : (tblArr (l ++ [n])).size = 13 := by simp [tblArr]
 by_cases hi : i < 13
 ·rw [tblArr_get _ _ hi, tblArr_get _ _ hi, tblCnt_snoc]
  by_cases e : n.toNat = i
  ·subst e
   rw [if_pos rfl, if_pos (by rw [hs]; exact hi), if_pos (by omega)]
  ·rw [if_neg e, if_neg (by omega)]
 ·rw [if_neg (by omega), Array.getElem?_eq_none (by omega), Array.getElem?_eq_none (by omega)]
def tblB (N : Int) (l : List Int) : Bool :=
 decide (1 ≤ l.length ∧ l.length ≤ 32) && (l.all fun n => decide (0 ≤ n ∧ n < N)) && ((List.range N.toNat).all fun i => decide (tblCnt l i ≠ 0))
theorem tblB_no {a0 : Int} {l : List Int} {k : Nat} {x : Int} (h : x < 0 ∨ a0 ≤ x) (hx : l[k]? = some x) : Ending.returned (.bool false) = .returned (.bool (tblB a0 l)) := by
 have : (l.all fun n => decide (0 ≤ n ∧ n < a0)) = false := by
  rw [List.all_eq_false]
  exact ⟨x, List.mem_of_getElem? hx, by simp; omega⟩
 rw [tblB, this]
 simp
theorem tblB_no2 {N : Nat} {l : List Int} {k : Nat} (h : k < N) (hx : tblCnt l k = 0) : Ending.returned (.bool false) = .returned (.bool (tblB N l)) := by
 have : ((List.range (N : Int).toNat).all fun i => decide (tblCnt l i ≠ 0)) = false := by
  rw [List.all_eq_false]
  exact ⟨k, by simpa using h, by simp [hx]⟩
 rw [tblB, this]
 simp
theorem tblB_yes {N : Nat} {l : List Int} (h : 1 ≤ l.length ∧ l.length ≤ 32) (hp : ∀ n ∈ l, 0 ≤ n ∧ n < (N : Int)) (hq : ∀ i, i < N → tblCnt l i ≠ 0) : Ending.returned (.bool true) = .returned (.bool (tblB N l)) := by
 have h1 : (l.all fun n => decide (0 ≤ n ∧ n < (N : Int))) = true := by
  rw [List.all_eq_true]
  exact fun n hn => decide_eq_true (hp n hn)
 have h2 : ((List.range (N : Int).toNat).all fun i => decide (tblCnt l i ≠ 0)) = true := by
  rw [List.all_eq_true]
  intro i hi
  exact decide_eq_true (hq i (by simpa using hi))
 rw [tblB, h1, h2, decide_eq_true h]
 simp
set_option maxHeartbeats 4000000 in
set_option maxRecDepth 100000 in
theorem conf_table.calls_yes (a0 a1 a2 a3 a4 a5 a6 a7 a8 a9 : Int) (A : Option Addr) (c : Nat) (l : List Int) (w : World)  (hr : Kd.C (Kd.int .i64) w A l.length l) (hc : l.length ≤ c) (h0 : 0 ≤ a0) (h1 : a0 ≤ 13) (B1 : 1 ≤ l.length) (B2 : l.length ≤ 32) :
  Calls Try.prog 46 #[.agg #[.int .i64 a0, .int .i64 a1, .int .i64 a2, .int .i64 a3, .int .i64 a4, .int .i64 a5, .int .i64 a6, .int .i64 a7, .int .i64 a8, .int .i64 a9, .slice A l.length c]] w fun e w' => e = .returned (.bool (tblB a0 l)) ∧ Below w.heap.size w w' := by
 have hs : conf_span_has.f 1 32 (l.length : Int) = some true := by
  unfold conf_span_has.f
  rw [if_pos (by omega)]
  simp; omega
 have B3 := Try.underlying24
 have B4 := Try.underlying71
 have B5 := Try.underlying79
 have Hs := am_ hs
 have HR := am_ hr
 clear hs hr
 go_enter Try.func46, Try.ntmps46
 go_wp2_with fail
 refine (conf_span_has.calls 1 32 (l.length : Int) true _ Hs.out).mono ?_
 rintro e w1 ⟨rfl, hb⟩
 have hz : w.heap.size + 1 < w1.heap.size := by have := hb.size; simp at this; omega
 have hbN : w1.heap[w.heap.size]? = some (.cells #[.int .i64 a0, .int .i64 a1, .int .i64 a2, .int .i64 a3, .int .i64 a4, .int .i64 a5, .int .i64 a6, .int .i64 a7, .int .i64 a8, .int .i64 a9, .slice A l.length c] 24 (0, 0)) :=
  (hb.block _ (by simp; omega)).trans (blk_alloc (blk_new w _) _)
 have B0 : Below w.heap.size w w1 := ((below_alloc (below_alloc (Below.refl _ _) _) _)).trans (hb.mono (by simp; omega))
 have hcT : ∀ o, (w1.alloc o).cell? ⟨w.heap.size, 10, none⟩ = some (.slice A l.length c) := fun o => (blk_cell (blk_alloc hbN o) 10).trans rfl
 have HBN := am_ hbN
 have B6 := am_ B0
 have Hz := am_ (show w.heap.size < w1.heap.size by omega)
 clear hbN B0 hb
 go_wp2
 clear hcT hz
 go_loopw [19] (fun i wr => ∃ k : Nat, k ≤ l.length ∧ i = .int .i64 k ∧ Aside0 (∀ n ∈ l.take k, 0 ≤ n ∧ n < a0) ∧ Aside0 (Below w.heap.size w wr) ∧ Aside0 (wr.heap[w.heap.size]? = w1.heap[w.heap.size]?) ∧ Aside0 (wr.heap[w1.heap.size]? = some (.cells (tblArr (l.take k)) 79 (0, 0)))) (fun i _ => l.length - (intOf i).toNat)
 case atStart => exact ⟨0, Nat.zero_le _, rfl, ⟨by simp⟩, ⟨below_alloc B6.out _⟩, ⟨Below.heap_alloc _ _ _ Hz.out⟩, ⟨by rw [heap_alloc_new]; rfl⟩⟩
 case round =>
  obtain ⟨k, hk, rfl, HP, HB, HN, HT⟩ := hrel
  have HN' := am_ (HN.out.trans HBN.out)
  by_cases hlt : k < l.length
  ·obtain ⟨ad, e, hx⟩ := Kd.at_int HR.out (k : Int) (by omega) (by omega)
   cases e
   have hx' : wr.cell? (ad.add k) = some (.int .i64 (l[k]?.getD 0)) := by
    have := (HB.out.cell (World.block_lt_of_cell? w _ hx)).trans hx
    simpa [rd] using this
   clear hx
   have hxl : l[k]? = some (l[k]?.getD 0) := by rw [List.getElem?_eq_getElem hlt]; rfl
   obtain ⟨x, hxe⟩ : ∃ x, l[k]?.getD 0 = x := ⟨_, rfl⟩
   rw [hxe] at hx' hxl
   clear hxe
   have hcN : wr.cell? ⟨w.heap.size, 0, none⟩ = some (.int .i64 a0) := (blk_cell HN'.out 0).trans rfl
   have Hxl := am_ hxl
   clear hxl
   by_cases c0 : x < 0
   ·have b0 : decide (x < 0) = true := decide_eq_true c0
    go_wp2
    go_ret
    exact ⟨tblB_no (by omega) Hxl.out, HB.out⟩
   ·have b0 : decide (x < 0) = false := decide_eq_false c0
    by_cases c1 : x ≥ a0
    ·have b1 : decide (a0 ≤ x) = true := decide_eq_true c1
     go_wp2
     go_ret
     exact ⟨tblB_no (by omega) Hxl.out, HB.out⟩
    ·have b1 : decide (a0 ≤ x) = false := decide_eq_false c1
     obtain ⟨j, rfl⟩ := Int.eq_ofNat_of_zero_le (show 0 ≤ x by omega)
     have hj : j < 13 := by omega
     have hcj : wr.cell? ⟨w1.heap.size, j, none⟩ = some (.int .i64 (tblCnt (l.take k) j)) := (blk_cell HT.out j).trans (tblArr_get _ _ hj)
     have hfj : wr.frozen? ⟨w1.heap.size, j, none⟩ = false := blk_frozen HT.out j
     have B7 := (tblCnt_range (l.take k) j).1
     have B8 : tblCnt (l.take k) j ≤ 32 := by have := (tblCnt_range (l.take k) j).2; have := List.length_take_le k l; omega
     go_wp2
     go_roundw
     case rel =>
      refine ⟨k + 1, by omega, by go_num, ⟨fun n hn => ?_⟩, ⟨HB.out.setCell (p := ⟨w1.heap.size, j, none⟩) (by have := Hz.out; simp; omega) _⟩, ⟨(Below.heap_setCell _ _ _ _ (by have := Hz.out; simp; omega)).trans HN.out⟩, ⟨?_⟩⟩
      ·rw [List.take_add_one, Hxl.out] at hn
       simp at hn
       rcases hn with hn | rfl
       ·exact HP.out n hn
       ·omega
      ·have hb := blk_set HT.out j (.int .i64 (tblCnt (l.take k) j + 1))
       have ht := tblArr_snoc (l.take k) (j : Int) (by omega) (by omega)
       rw [Int.toNat_natCast] at ht
       rw [ht] at hb
       rw [List.take_add_one, Hxl.out]
       exact hb
     case measure => simp [intOf]; omega
  ·obtain rfl : k = l.length := by omega
   have hcN : wr.cell? ⟨w.heap.size, 0, none⟩ = some (.int .i64 a0) := (blk_cell HN'.out 0).trans rfl
   rw [List.take_length] at HP HT
   go_wp2
   clear hcN
   obtain ⟨N, rfl⟩ := Int.eq_ofNat_of_zero_le h0
   go_loop [41] (fun i => ∃ k : Nat, k ≤ N ∧ i = .int .i64 k ∧ Aside0 (∀ i, i < k → tblCnt l i ≠ 0)) (fun i => N - (intOf i).toNat)
   case atStart => exact ⟨0, Nat.zero_le _, rfl, ⟨fun i hi => by omega⟩⟩
   case round =>
    obtain ⟨k, hk, rfl, HQ⟩ := hrel
    by_cases hlt : k < N
    ·have hck : wr.cell? ⟨w1.heap.size, k, none⟩ = some (.int .i64 (tblCnt l k)) := (blk_cell HT.out k).trans (tblArr_get _ _ (by omega))
     by_cases c0 : tblCnt l k = 0
     ·have b0 : (tblCnt l k == 0) = true := beq_iff_eq.mpr c0
      have C0 := am_ c0
      clear c0
      go_wp2
      go_ret
      exact ⟨tblB_no2 hlt C0.out, HB.out⟩
     ·have b0 : (tblCnt l k == 0) = false := beq_eq_false_iff_ne.mpr c0
      have C0 := am_ c0
      clear c0
      go_wp2
      go_round
      case rel => exact ⟨k + 1, by omega, by go_num, ⟨fun i hi => by
       by_cases e : i = k
       ·rw [e]; exact C0.out
       ·exact HQ.out i (by omega)⟩⟩
      case measure => simp [intOf]; omega
    ·obtain rfl : k = N := by omega
     go_wp2
     go_ret
     exact ⟨tblB_yes ⟨B1, B2⟩ HP.out HQ.out, HB.out⟩
def conf_table.f (B0 B2 B3 B4 B5 B6 B7 B8 B9 Ba : Int) (B1 : List Int) : Option Bool := if 0 ≤ B0 ∧ B0 ≤ 13 then some (tblB B0 B1) else none
theorem tblB_no0 {a0 : Int} {l : List Int} (h : ¬ (1 ≤ l.length ∧ l.length ≤ 32)) : Ending.returned (.bool false) = .returned (.bool (tblB a0 l)) := by
 rw [tblB, decide_eq_false h]
 simp
set_option maxHeartbeats 4000000 in
set_option maxRecDepth 100000 in
theorem conf_table.calls_no (a0 a1 a2 a3 a4 a5 a6 a7 a8 a9 : Int) (A : Option Addr) (c : Nat) (l : List Int) (w : World) (hl : ¬ (1 ≤ l.length ∧ l.length ≤ 32)) :
  Calls Try.prog 46 #[.agg #[.int .i64 a0, .int .i64 a1, .int .i64 a2, .int .i64 a3, .int .i64 a4, .int .i64 a5, .int .i64 a6, .int .i64 a7, .int .i64 a8, .int .i64 a9, .slice A l.length c]] w fun e w' => e = .returned (.bool (tblB a0 l)) ∧ Below w.heap.size w w' := by
 have hs : conf_span_has.f 1 32 (l.length : Int) = some false := by
  unfold conf_span_has.f
  split
  ·simp; omega
  ·rfl
 have B1 := Try.underlying24
 have B2 := Try.underlying71
 have Hs := am_ hs
 have Hl := am_ hl
 clear hs hl
 go_enter Try.func46, Try.ntmps46
 go_wp2_with fail
 refine (conf_span_has.calls 1 32 (l.length : Int) false _ Hs.out).mono ?_
 rintro e w1 ⟨rfl, hb⟩
 have B0 : Below w.heap.size w w1 := ((below_alloc (below_alloc (Below.refl _ _) _) _)).trans (hb.mono (by simp; omega))
 have B3 := am_ B0
 clear B0 hb
 go_wp2
 go_ret
 exact ⟨tblB_no0 Hl.out, B3.out⟩
theorem conf_table.calls (B5 B6 B7 B8 B9 Ba Bb Bc Bd Be : Int) (B1 : Option Addr) (B2 : Nat) (B0 : List Int) (r : Bool) (w : World) (B3 : Kd.C (Kd.int .i64) w B1 B0.length B0) (B4 : B0.length ≤ B2) (h : conf_table.f B5 B6 B7 B8 B9 Ba Bb Bc Bd Be B0 = some r) :
  Calls Try.prog 46 #[.agg #[.int .i64 B5, .int .i64 B6, .int .i64 B7, .int .i64 B8, .int .i64 B9, .int .i64 Ba, .int .i64 Bb, .int .i64 Bc, .int .i64 Bd, .int .i64 Be, .slice B1 B0.length B2]] w fun e w' => e = .returned (.bool r) ∧ Below w.heap.size w w' := by
 unfold conf_table.f at h
 split at h
 ·rename_i hn
  obtain rfl := Option.some.inj h
  by_cases hl : 1 ≤ B0.length ∧ B0.length ≤ 32
  ·exact conf_table.calls_yes _ _ _ _ _ _ _ _ _ _ _ _ _ w B3 B4 hn.1 hn.2 hl.1 hl.2
  ·exact conf_table.calls_no _ _ _ _ _ _ _ _ _ _ _ _ _ w hl
 ·cases h
def conf_Plain.f (k : Nat) (B2 B3 B1 B4 B5 B6 B7 B8 B9 Ba : Int) (B0 : List Int) : Option (Int) := (conf_nodes.f B2 B3 B1 B4 B5 B6 B7 B8 B9 Ba B0).bind fun Bb => (if Bb = true then ((conf_span_has.f 1 4 B1).bind fun Bc => (if Bc = true then ((conf_numbers.f k B2 B3 B1 B4 B5 B6 B7 B8 B9 Ba B0).bind fun Bd => (if Bd = true then ((conf_table.f B2 B3 B1 B4 B5 B6 B7 B8 B9 Ba B0).bind fun Be => (if Be = true then (some 0) else (some 11))) else (some 8))) else (some 10))) else (some 7))
theorem conf_Plain.mono : ∀ a0 a1 a2 a3 a4 a5 a6 a7 a8 a9 B0 k, LeO (conf_Plain.f k a0 a1 a2 a3 a4 a5 a6 a7 a8 a9 B0) (conf_Plain.f (k + 1) a0 a1 a2 a3 a4 a5 a6 a7 a8 a9 B0) := by
 intro a0 a1 a2 a3 a4 a5 a6 a7 a8 a9 B0 k
 unfold conf_Plain.f
 repeat' first
   | (with_reducible exact conf_numbers.mono _ _ _ _ _ _ _ _ _ _ _ _)
   | (with_reducible exact LeO.refl _)
   | (with_reducible exact LeO.none _)
   | (with_reducible refine LeO.ite ?_ ?_)
   | (with_reducible refine LeO.bind ?_ (fun _ => ?_))
   | exact conf_numbers.mono _ _ _ _ _ _ _ _ _ _ _ _
   | exact LeO.none _
   | refine LeO.ite ?_ ?_
   | refine LeO.bind ?_ (fun _ => ?_)
set_option maxHeartbeats 8000000 in
set_option maxRecDepth 100000 in
theorem conf_Plain.calls (k : Nat) (B8 B9 B7 Ba Bb Bc Bd Be Bf Bg : Int) (Bh : Option Addr) (Bi : Nat) (B3 : List Int) (r : Int) (w : World) (Bp : Kd.C (Kd.int .i64) w Bh B3.length B3) (Bq : B3.length ≤ Bi) (h : conf_Plain.f k B8 B9 B7 Ba Bb Bc Bd Be Bf Bg B3 = some r) :
  Calls Try.prog 18 #[.agg #[.int .i64 B8, .int .i64 B9, .int .i64 B7, .int .i64 Ba, .int .i64 Bb, .int .i64 Bc, .int .i64 Bd, .int .i64 Be, .int .i64 Bf, .int .i64 Bg, .slice Bh B3.length Bi]] w fun e w' => e = .returned (.int .i64 r) ∧ Below w.heap.size w w' := by
 have Ef := Try.underlying24
 have Eg := Try.underlying71
 have Bj := am_ Bp
 have Bk := am_ Bq
 clear Bp Bq
 have HB := am_ (Below.refl w.heap.size w)
 have H := h
 unfold conf_Plain.f at H
 clear h
 obtain ⟨Dj, A2, H⟩ := bes_ H
 try dsimp only at H
 by_cases c3 : Dj = true
 ·subst c3
  rw [if_pos rfl] at H
  obtain ⟨Dk, A4, H⟩ := bes_ H
  try dsimp only at H
  by_cases c5 : Dk = true
  ·subst c5
   rw [if_pos rfl] at H
   obtain ⟨Dl, A6, H⟩ := bes_ H
   try dsimp only at H
   by_cases c7 : Dl = true
   ·subst c7
    rw [if_pos rfl] at H
    obtain ⟨Dm, A8, H⟩ := bes_ H
    try dsimp only at H
    by_cases c9 : Dm = true
    subst c9
    rw [if_pos rfl] at H
    obtain rfl := Option.some.inj H
    rotate_left
    replace c9 := Bool.eq_false_iff.mpr c9
    subst c9
    rw [if_neg (show ¬ (false = true) by decide)] at H
    obtain rfl := Option.some.inj H
    rotate_left
    all_goals
     go_enter Try.func18, Try.ntmps18
     go_wp2_with (first | ((with_reducible refine gate_dst (N := 1) rfl ?_); refine bxe_ 1 24 #[.int .i64 B8, .int .i64 B9, .int .i64 B7, .int .i64 Ba, .int .i64 Bb, .int .i64 Bc, .int .i64 Bd, .int .i64 Be, .int .i64 Bf, .int .i64 Bg, .slice Bh B3.length Bi] ?_; intro Bl hg w10 hbox hb; have B0 := am_ (hbox); have Bm := gwk_ HB hg; have B5 := Bm; replace HB := bst_ HB hb; clear hb hbox hg) | ((with_reducible refine gate_dst (N := 3) rfl ?_); refine bxe_ 3 71 #[.int .i64 0, .int .i64 0] ?_; intro Bn hg w11 hbox hb; have B1 := am_ (hbox); have Bo := gwk_ HB hg; have B6 := Bo; replace HB := bst_ HB hb; have B2 := nbk_ B0 hg; have B4 := nbs_ B2; replace B0 := bkb_ B0 hb; clear hb hbox hg; have Dn := B4.out; have Do := B2.out; obtain ⟨Br, Bs⟩ := cells_2 B1.out; obtain ⟨Bt, Bu⟩ := frozen_2 B1.out; have Dp := cells_11 B0.out; have Dq := frozen_11 B0.out) | ((with_reducible refine gate_callee (f := 43) rfl ?_); refine gom_ (some 7) Try.func43 (conf_nodes.calls B8 B9 B7 Ba Bb Bc Bd Be Bf Bg _ _ B3 _ _ ?side1 Bk.out A2.out) ?_; (case side1 => exact Kd.C_below Bj.out (by repeat (first | (with_reducible first | exact HB.out | apply ba_ | apply bn_ | apply bd_ | refine bs_ ?_ B5.out | refine bs_ ?_ B6.out) | exact HB.out))); rintro e w15 ⟨rfl, hb⟩; refine ⟨_, rfl, ?_⟩; replace B0 := am_ (blk_below (g := Bl) (o := .cells #[.int .i64 B8, .int .i64 B9, .int .i64 B7, .int .i64 Ba, .int .i64 Bb, .int .i64 Bc, .int .i64 Bd, .int .i64 Be, .int .i64 Bf, .int .i64 Bg, .slice Bh B3.length Bi] 24 (0, 0)) (by (iterate 2 ((with_reducible repeat (first | apply kn_ | apply kd_ | apply ka_)); refine blk_far ?_ B2.out _)); (with_reducible repeat (first | apply kn_ | apply kd_ | apply ka_)); exact B0.out) hb); replace B1 := am_ (blk_below (g := Bn) (o := .cells #[.int .i64 1, .int .i64 4] 71 (0, 0)) (by (with_reducible repeat (first | apply kn_ | apply kd_ | apply ka_)); refine blk_put (cs := #[.int .i64 1, .int .i64 0]) ?_ 1 _ rfl; (with_reducible repeat (first | apply kn_ | apply kd_ | apply ka_)); refine blk_put (cs := #[.int .i64 0, .int .i64 0]) ?_ 0 _ rfl; (with_reducible repeat (first | apply kn_ | apply kd_ | apply ka_)); exact B1.out) hb); replace HB := am_ (below_step (by repeat (first | (with_reducible first | exact HB.out | apply ba_ | apply bn_ | apply bd_ | refine bs_ ?_ B5.out | refine bs_ ?_ B6.out) | exact HB.out)) hb); (try clear hb); obtain ⟨Bv, Bw⟩ := cells_2 B1.out; obtain ⟨Bx, By⟩ := frozen_2 B1.out; have Dr := cells_11 B0.out; have Ds := frozen_11 B0.out) | ((with_reducible refine gate_callee (f := 44) rfl ?_); refine gom_ (some 13) Try.func44 (conf_span_has.calls 1 4 B7 _ _ A4.out) ?_; rintro e w18 ⟨rfl, hb⟩; refine ⟨_, rfl, ?_⟩; replace B0 := bkb_ B0 hb; replace B1 := bkb_ B1 hb; replace HB := bst_ HB hb; (try clear hb); have Dt := cells_11 B0.out; have Du := frozen_11 B0.out) | ((with_reducible refine gate_callee (f := 45) rfl ?_); refine gom_ (some 17) Try.func45 (conf_numbers.calls k B8 B9 B7 Ba Bb Bc Bd Be Bf Bg _ _ B3 _ _ (Kd.C_below Bj.out HB.out) Bk.out A6.out) ?_; rintro e w20 ⟨rfl, hb⟩; refine ⟨_, rfl, ?_⟩; replace B0 := bkb_ B0 hb; replace B1 := bkb_ B1 hb; replace HB := bst_ HB hb; (try clear hb); have Dv := cells_11 B0.out; have Dw := frozen_11 B0.out) | ((with_reducible refine gate_callee (f := 46) rfl ?_); refine gom_ (some 21) Try.func46 (conf_table.calls B8 B9 B7 Ba Bb Bc Bd Be Bf Bg _ _ B3 _ _ (Kd.C_below Bj.out HB.out) Bk.out A8.out) ?_; rintro e w22 ⟨rfl, hb⟩; refine ⟨_, rfl, ?_⟩; replace B0 := bkb_ B0 hb; replace B1 := bkb_ B1 hb; replace HB := bst_ HB hb; (try clear hb)))
     go_ret
     exact ⟨by first | rfl | (simp [*] <;> rfl), by repeat (first | (with_reducible first | exact HB.out | apply ba_ | apply bn_ | apply bd_ | refine bs_ ?_ B5.out | refine bs_ ?_ B6.out) | exact HB.out)⟩
   ·replace c7 := Bool.eq_false_iff.mpr c7
    subst c7
    rw [if_neg (show ¬ (false = true) by decide)] at H
    obtain rfl := Option.some.inj H
    go_enter Try.func18, Try.ntmps18
    go_wp2_with (first | ((with_reducible refine gate_dst (N := 1) rfl ?_); refine bxe_ 1 24 #[.int .i64 B8, .int .i64 B9, .int .i64 B7, .int .i64 Ba, .int .i64 Bb, .int .i64 Bc, .int .i64 Bd, .int .i64 Be, .int .i64 Bf, .int .i64 Bg, .slice Bh B3.length Bi] ?_; intro Bl hg w36 hbox hb; have B0 := am_ (hbox); have Bm := gwk_ HB hg; have B5 := Bm; replace HB := bst_ HB hb; clear hb hbox hg) | ((with_reducible refine gate_dst (N := 3) rfl ?_); refine bxe_ 3 71 #[.int .i64 0, .int .i64 0] ?_; intro Bn hg w37 hbox hb; have B1 := am_ (hbox); have Bo := gwk_ HB hg; have B6 := Bo; replace HB := bst_ HB hb; have B2 := nbk_ B0 hg; have B4 := nbs_ B2; replace B0 := bkb_ B0 hb; clear hb hbox hg; have Dx := B4.out; have Dy := B2.out; obtain ⟨Bz, D0⟩ := cells_2 B1.out; obtain ⟨D1, D2⟩ := frozen_2 B1.out; have Dz := cells_11 B0.out; have E0 := frozen_11 B0.out) | ((with_reducible refine gate_callee (f := 43) rfl ?_); refine gom_ (some 7) Try.func43 (conf_nodes.calls B8 B9 B7 Ba Bb Bc Bd Be Bf Bg _ _ B3 _ _ ?side1 Bk.out A2.out) ?_; (case side1 => exact Kd.C_below Bj.out (by repeat (first | (with_reducible first | exact HB.out | apply ba_ | apply bn_ | apply bd_ | refine bs_ ?_ B5.out | refine bs_ ?_ B6.out) | exact HB.out))); rintro e w41 ⟨rfl, hb⟩; refine ⟨_, rfl, ?_⟩; replace B0 := am_ (blk_below (g := Bl) (o := .cells #[.int .i64 B8, .int .i64 B9, .int .i64 B7, .int .i64 Ba, .int .i64 Bb, .int .i64 Bc, .int .i64 Bd, .int .i64 Be, .int .i64 Bf, .int .i64 Bg, .slice Bh B3.length Bi] 24 (0, 0)) (by (iterate 2 ((with_reducible repeat (first | apply kn_ | apply kd_ | apply ka_)); refine blk_far ?_ B2.out _)); (with_reducible repeat (first | apply kn_ | apply kd_ | apply ka_)); exact B0.out) hb); replace B1 := am_ (blk_below (g := Bn) (o := .cells #[.int .i64 1, .int .i64 4] 71 (0, 0)) (by (with_reducible repeat (first | apply kn_ | apply kd_ | apply ka_)); refine blk_put (cs := #[.int .i64 1, .int .i64 0]) ?_ 1 _ rfl; (with_reducible repeat (first | apply kn_ | apply kd_ | apply ka_)); refine blk_put (cs := #[.int .i64 0, .int .i64 0]) ?_ 0 _ rfl; (with_reducible repeat (first | apply kn_ | apply kd_ | apply ka_)); exact B1.out) hb); replace HB := am_ (below_step (by repeat (first | (with_reducible first | exact HB.out | apply ba_ | apply bn_ | apply bd_ | refine bs_ ?_ B5.out | refine bs_ ?_ B6.out) | exact HB.out)) hb); (try clear hb); obtain ⟨D3, D4⟩ := cells_2 B1.out; obtain ⟨D5, D6⟩ := frozen_2 B1.out; have E1 := cells_11 B0.out; have E2 := frozen_11 B0.out) | ((with_reducible refine gate_callee (f := 44) rfl ?_); refine gom_ (some 13) Try.func44 (conf_span_has.calls 1 4 B7 _ _ A4.out) ?_; rintro e w44 ⟨rfl, hb⟩; refine ⟨_, rfl, ?_⟩; replace B0 := bkb_ B0 hb; replace B1 := bkb_ B1 hb; replace HB := bst_ HB hb; (try clear hb); have E3 := cells_11 B0.out; have E4 := frozen_11 B0.out) | ((with_reducible refine gate_callee (f := 45) rfl ?_); refine gom_ (some 17) Try.func45 (conf_numbers.calls k B8 B9 B7 Ba Bb Bc Bd Be Bf Bg _ _ B3 _ _ (Kd.C_below Bj.out HB.out) Bk.out A6.out) ?_; rintro e w46 ⟨rfl, hb⟩; refine ⟨_, rfl, ?_⟩; replace B0 := bkb_ B0 hb; replace B1 := bkb_ B1 hb; replace HB := bst_ HB hb; (try clear hb)))
    go_ret
    exact ⟨by first | rfl | (simp [*] <;> rfl), by repeat (first | (with_reducible first | exact HB.out | apply ba_ | apply bn_ | apply bd_ | refine bs_ ?_ B5.out | refine bs_ ?_ B6.out) | exact HB.out)⟩
  ·replace c5 := Bool.eq_false_iff.mpr c5
   subst c5
   rw [if_neg (show ¬ (false = true) by decide)] at H
   obtain rfl := Option.some.inj H
   go_enter Try.func18, Try.ntmps18
   go_wp2_with (first | ((with_reducible refine gate_dst (N := 1) rfl ?_); refine bxe_ 1 24 #[.int .i64 B8, .int .i64 B9, .int .i64 B7, .int .i64 Ba, .int .i64 Bb, .int .i64 Bc, .int .i64 Bd, .int .i64 Be, .int .i64 Bf, .int .i64 Bg, .slice Bh B3.length Bi] ?_; intro Bl hg w47 hbox hb; have B0 := am_ (hbox); have Bm := gwk_ HB hg; have B5 := Bm; replace HB := bst_ HB hb; clear hb hbox hg) | ((with_reducible refine gate_dst (N := 3) rfl ?_); refine bxe_ 3 71 #[.int .i64 0, .int .i64 0] ?_; intro Bn hg w48 hbox hb; have B1 := am_ (hbox); have Bo := gwk_ HB hg; have B6 := Bo; replace HB := bst_ HB hb; have B2 := nbk_ B0 hg; have B4 := nbs_ B2; replace B0 := bkb_ B0 hb; clear hb hbox hg; have E5 := B4.out; have E6 := B2.out; obtain ⟨D7, D8⟩ := cells_2 B1.out; obtain ⟨D9, Da⟩ := frozen_2 B1.out; have E7 := cells_11 B0.out; have E8 := frozen_11 B0.out) | ((with_reducible refine gate_callee (f := 43) rfl ?_); refine gom_ (some 7) Try.func43 (conf_nodes.calls B8 B9 B7 Ba Bb Bc Bd Be Bf Bg _ _ B3 _ _ ?side1 Bk.out A2.out) ?_; (case side1 => exact Kd.C_below Bj.out (by repeat (first | (with_reducible first | exact HB.out | apply ba_ | apply bn_ | apply bd_ | refine bs_ ?_ B5.out | refine bs_ ?_ B6.out) | exact HB.out))); rintro e w52 ⟨rfl, hb⟩; refine ⟨_, rfl, ?_⟩; replace B0 := am_ (blk_below (g := Bl) (o := .cells #[.int .i64 B8, .int .i64 B9, .int .i64 B7, .int .i64 Ba, .int .i64 Bb, .int .i64 Bc, .int .i64 Bd, .int .i64 Be, .int .i64 Bf, .int .i64 Bg, .slice Bh B3.length Bi] 24 (0, 0)) (by (iterate 2 ((with_reducible repeat (first | apply kn_ | apply kd_ | apply ka_)); refine blk_far ?_ B2.out _)); (with_reducible repeat (first | apply kn_ | apply kd_ | apply ka_)); exact B0.out) hb); replace B1 := am_ (blk_below (g := Bn) (o := .cells #[.int .i64 1, .int .i64 4] 71 (0, 0)) (by (with_reducible repeat (first | apply kn_ | apply kd_ | apply ka_)); refine blk_put (cs := #[.int .i64 1, .int .i64 0]) ?_ 1 _ rfl; (with_reducible repeat (first | apply kn_ | apply kd_ | apply ka_)); refine blk_put (cs := #[.int .i64 0, .int .i64 0]) ?_ 0 _ rfl; (with_reducible repeat (first | apply kn_ | apply kd_ | apply ka_)); exact B1.out) hb); replace HB := am_ (below_step (by repeat (first | (with_reducible first | exact HB.out | apply ba_ | apply bn_ | apply bd_ | refine bs_ ?_ B5.out | refine bs_ ?_ B6.out) | exact HB.out)) hb); (try clear hb); obtain ⟨Db, Dc⟩ := cells_2 B1.out; obtain ⟨Dd, De⟩ := frozen_2 B1.out; have E9 := cells_11 B0.out; have Ea := frozen_11 B0.out) | ((with_reducible refine gate_callee (f := 44) rfl ?_); refine gom_ (some 13) Try.func44 (conf_span_has.calls 1 4 B7 _ _ A4.out) ?_; rintro e w55 ⟨rfl, hb⟩; refine ⟨_, rfl, ?_⟩; replace B0 := bkb_ B0 hb; replace B1 := bkb_ B1 hb; replace HB := bst_ HB hb; (try clear hb)))
   go_ret
   exact ⟨by first | rfl | (simp [*] <;> rfl), by repeat (first | (with_reducible first | exact HB.out | apply ba_ | apply bn_ | apply bd_ | refine bs_ ?_ B5.out | refine bs_ ?_ B6.out) | exact HB.out)⟩
 ·replace c3 := Bool.eq_false_iff.mpr c3
  subst c3
  rw [if_neg (show ¬ (false = true) by decide)] at H
  obtain rfl := Option.some.inj H
  go_enter Try.func18, Try.ntmps18
  go_wp2_with (first | ((with_reducible refine gate_dst (N := 1) rfl ?_); refine bxe_ 1 24 #[.int .i64 B8, .int .i64 B9, .int .i64 B7, .int .i64 Ba, .int .i64 Bb, .int .i64 Bc, .int .i64 Bd, .int .i64 Be, .int .i64 Bf, .int .i64 Bg, .slice Bh B3.length Bi] ?_; intro Bl hg w56 hbox hb; have B0 := am_ (hbox); have Bm := gwk_ HB hg; have B5 := Bm; replace HB := bst_ HB hb; clear hb hbox hg) | ((with_reducible refine gate_dst (N := 3) rfl ?_); refine bxe_ 3 71 #[.int .i64 0, .int .i64 0] ?_; intro Bn hg w57 hbox hb; have B1 := am_ (hbox); have Bo := gwk_ HB hg; have B6 := Bo; replace HB := bst_ HB hb; have B2 := nbk_ B0 hg; have B4 := nbs_ B2; replace B0 := bkb_ B0 hb; clear hb hbox hg; have Eb := B4.out; have Ec := B2.out; obtain ⟨Df, Dg⟩ := cells_2 B1.out; obtain ⟨Dh, Di⟩ := frozen_2 B1.out; have Ed := cells_11 B0.out; have Ee := frozen_11 B0.out) | ((with_reducible refine gate_callee (f := 43) rfl ?_); refine gom_ (some 7) Try.func43 (conf_nodes.calls B8 B9 B7 Ba Bb Bc Bd Be Bf Bg _ _ B3 _ _ ?side1 Bk.out A2.out) ?_; (case side1 => exact Kd.C_below Bj.out (by repeat (first | (with_reducible first | exact HB.out | apply ba_ | apply bn_ | apply bd_ | refine bs_ ?_ B5.out | refine bs_ ?_ B6.out) | exact HB.out))); rintro e w61 ⟨rfl, hb⟩; refine ⟨_, rfl, ?_⟩; replace B0 := am_ (blk_below (g := Bl) (o := .cells #[.int .i64 B8, .int .i64 B9, .int .i64 B7, .int .i64 Ba, .int .i64 Bb, .int .i64 Bc, .int .i64 Bd, .int .i64 Be, .int .i64 Bf, .int .i64 Bg, .slice Bh B3.length Bi] 24 (0, 0)) (by (iterate 2 ((with_reducible repeat (first | apply kn_ | apply kd_ | apply ka_)); refine blk_far ?_ B2.out _)); (with_reducible repeat (first | apply kn_ | apply kd_ | apply ka_)); exact B0.out) hb); replace B1 := am_ (blk_below (g := Bn) (o := .cells #[.int .i64 1, .int .i64 4] 71 (0, 0)) (by (with_reducible repeat (first | apply kn_ | apply kd_ | apply ka_)); refine blk_put (cs := #[.int .i64 1, .int .i64 0]) ?_ 1 _ rfl; (with_reducible repeat (first | apply kn_ | apply kd_ | apply ka_)); refine blk_put (cs := #[.int .i64 0, .int .i64 0]) ?_ 0 _ rfl; (with_reducible repeat (first | apply kn_ | apply kd_ | apply ka_)); exact B1.out) hb); replace HB := am_ (below_step (by repeat (first | (with_reducible first | exact HB.out | apply ba_ | apply bn_ | apply bd_ | refine bs_ ?_ B5.out | refine bs_ ?_ B6.out) | exact HB.out)) hb); (try clear hb)))
  go_ret
  exact ⟨by first | rfl | (simp [*] <;> rfl), by repeat (first | (with_reducible first | exact HB.out | apply ba_ | apply bn_ | apply bd_ | refine bs_ ?_ B5.out | refine bs_ ?_ B6.out) | exact HB.out)⟩
end Go.Proofs.Ytdnccjlfongdeaa.Gn
