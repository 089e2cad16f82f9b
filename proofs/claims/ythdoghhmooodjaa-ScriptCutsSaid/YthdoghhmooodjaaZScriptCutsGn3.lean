import Derived.Test.YthdoghhmooodjaaZScriptCutsGn0
import Derived.Test.YthdoghhmooodjaaZScriptCutsGn1
namespace Go.Proofs.Ythdoghhmooodjaa.Gn
open Go.RowKit Go.Proofs.YthdoghhmooodjaaW.PrintWords Go.Proofs.YthdoghhmooodjaaW.PrintLast Go.Proofs.YthdoghhmooodjaaW.PrintMore
attribute [local go_sem] max2_int min2_int max_two min_two max_three min_three max_four min_four   -- for this text's walks alone
set_option linter.unusedVariables false
set_option linter.unusedSimpArgs false
def conf_span_has.f (a0_0 a0_1 a1 : Int) : Option (Bool) := if a1 ≥ a0_0 then (some (decide (a1 ≤ a0_1))) else (some false)
set_option maxHeartbeats 8000000 in
set_option maxRecDepth 100000 in
theorem conf_span_has.calls (a0_0 a0_1 a1 : Int) (r : Bool) (w : World) (h : conf_span_has.f a0_0 a0_1 a1 = some r) :
  Calls Try.prog 84 #[.agg #[.int .i64 a0_0, .int .i64 a0_1], .int .i64 a1] w fun e w' => e = .returned (.bool r) ∧ Below w.heap.size w w' := by
 have hu87 := Try.underlying87
 have HB := am_ (Below.refl w.heap.size w)
 have H := h
 unfold conf_span_has.f at H
 clear h
 by_cases c3 : a1 ≥ a0_0
 rw [if_pos c3] at H
 have c3b0 : decide (a0_0 ≤ a1) = true := decide_eq_true c3
 rotate_left
 rw [if_neg c3] at H
 have c3b0 : decide (a0_0 ≤ a1) = false := decide_eq_false c3
 rotate_left
 all_goals
  clear c3
  obtain rfl := Option.some.inj H
  go_enter Try.func84, Try.ntmps84
  go_wp2_with (first | ((with_reducible refine gate_dst (N := 2) rfl ?_); refine bxe_ 2 87 #[.int .i64 a0_0, .int .i64 a0_1] ?_; intro gb401 hg w4 hbox hb; have BK401 := am_ (hbox); have GW401 := gwk_ HB hg; have GE401 := GW401; replace HB := bst_ HB hb; clear hb hbox hg; obtain ⟨hcz5_0, hcz5_1⟩ := cells_2 BK401.out; obtain ⟨hfz5_0, hfz5_1⟩ := frozen_2 BK401.out))
  go_ret
  exact ⟨by first | rfl | (simp [*] <;> rfl), by repeat (first | (with_reducible first | exact HB.out | apply ba_ | apply bn_ | apply bd_ | refine bs_ ?_ GE401.out) | exact HB.out)⟩
def conf_nodes.f (a0_0 a0_1 a0_2 a0_3 a0_4 a0_5 a0_6 a0_7 a0_8 a0_9 : Int) (l0_10 : List Int) : Option (Bool) := (conf_span_has.f 4 13 a0_0).bind fun t404 => (if t404 = true then ((conf_span_has.f 0 4 a0_1).bind fun t405 => (if t405 = true then (some (decide (a0_0 > (wrap64 (3 * a0_1))))) else (some false))) else (some false))
set_option maxHeartbeats 8000000 in
set_option maxRecDepth 100000 in
theorem conf_nodes.calls (a0_0 a0_1 a0_2 a0_3 a0_4 a0_5 a0_6 a0_7 a0_8 a0_9 : Int) (A0_10 : Option Addr) (c0_10 : Nat) (l0_10 : List Int) (r : Bool) (w : World) (hr0_10 : Kd.C (Kd.int .i64) w A0_10 l0_10.length l0_10) (hc0_10 : l0_10.length ≤ c0_10) (h : conf_nodes.f a0_0 a0_1 a0_2 a0_3 a0_4 a0_5 a0_6 a0_7 a0_8 a0_9 l0_10 = some r) :
  Calls Try.prog 83 #[.agg #[.int .i64 a0_0, .int .i64 a0_1, .int .i64 a0_2, .int .i64 a0_3, .int .i64 a0_4, .int .i64 a0_5, .int .i64 a0_6, .int .i64 a0_7, .int .i64 a0_8, .int .i64 a0_9, .slice A0_10 l0_10.length c0_10]] w fun e w' => e = .returned (.bool r) ∧ Below w.heap.size w w' := by
 have hu24 := Try.underlying24
 have hu87 := Try.underlying87
 have HR0_10 := am_ hr0_10
 have HC0_10 := am_ hc0_10
 clear hr0_10 hc0_10
 have HB := am_ (Below.refl w.heap.size w)
 have H := h
 unfold conf_nodes.f at H
 clear h
 obtain ⟨t404, A2, H⟩ := bes_ H
 try dsimp only at H
 by_cases c3 : t404 = true
 ·subst c3
  rw [if_pos rfl] at H
  obtain ⟨t405, A4, H⟩ := bes_ H
  try dsimp only at H
  by_cases c5 : t405 = true
  ·subst c5
   rw [if_pos rfl] at H
   obtain rfl := Option.some.inj H
   go_enter Try.func83, Try.ntmps83
   go_wp2_with (first | ((with_reducible refine gate_dst (N := 1) rfl ?_); refine bxe_ 1 24 #[.int .i64 a0_0, .int .i64 a0_1, .int .i64 a0_2, .int .i64 a0_3, .int .i64 a0_4, .int .i64 a0_5, .int .i64 a0_6, .int .i64 a0_7, .int .i64 a0_8, .int .i64 a0_9, .slice A0_10 l0_10.length c0_10] ?_; intro gb401 hg w6 hbox hb; have BK401 := am_ (hbox); have GW401 := gwk_ HB hg; have GE401 := GW401; replace HB := bst_ HB hb; clear hb hbox hg) | ((with_reducible refine gate_dst (N := 3) rfl ?_); refine bxe_ 3 87 #[.int .i64 0, .int .i64 0] ?_; intro gb402 hg w7 hbox hb; have BK402 := am_ (hbox); have GW402 := gwk_ HB hg; have GE402 := GW402; replace HB := bst_ HB hb; have NB401_402 := nbk_ BK401 hg; have NB402_401 := nbs_ NB401_402; replace BK401 := bkb_ BK401 hb; clear hb hbox hg; have hnb8 := NB402_401.out; have hnc8 := NB401_402.out; obtain ⟨hcz9_0, hcz9_1⟩ := cells_2 BK402.out; obtain ⟨hfz9_0, hfz9_1⟩ := frozen_2 BK402.out) | ((with_reducible refine gate_dst (N := 4) rfl ?_); refine bxe_ 4 87 #[.int .i64 0, .int .i64 0] ?_; intro gb403 hg w10 hbox hb; have q0_ := blk_of hb (g := gb401) (o := .cells #[.int .i64 a0_0, .int .i64 a0_1, .int .i64 a0_2, .int .i64 a0_3, .int .i64 a0_4, .int .i64 a0_5, .int .i64 a0_6, .int .i64 a0_7, .int .i64 a0_8, .int .i64 a0_9, .slice A0_10 l0_10.length c0_10] 24 (0, 0)) (by (iterate 2 ((with_reducible repeat (first | apply kn_ | apply kd_ | apply ka_)); refine blk_far ?_ NB401_402.out _)); (with_reducible repeat (first | apply kn_ | apply kd_ | apply ka_)); exact BK401.out); have q1_ := blk_of hb (g := gb402) (o := .cells #[.int .i64 4, .int .i64 13] 87 (0, 0)) (by (with_reducible repeat (first | apply kn_ | apply kd_ | apply ka_)); refine blk_put (cs := #[.int .i64 4, .int .i64 0]) ?_ 1 _ rfl; (with_reducible repeat (first | apply kn_ | apply kd_ | apply ka_)); refine blk_put (cs := #[.int .i64 0, .int .i64 0]) ?_ 0 _ rfl; (with_reducible repeat (first | apply kn_ | apply kd_ | apply ka_)); exact BK402.out); have q2_ := below_of hb (by repeat (first | (with_reducible first | exact HB.out | apply ba_ | apply bn_ | apply bd_ | refine bs_ ?_ GE401.out | refine bs_ ?_ GE402.out) | exact HB.out)); have BK403 := am_ (hbox); have GW403 := am_ ((by rw [hg]; exact (below_size q2_) : w.heap.size ≤ gb403)); have GE403 := GW403; replace HB := am_ (below_step q2_ hb); have NB401_403 := am_ ((by rw [hg]; exact Nat.ne_of_lt (blk_lt q0_) : gb401 ≠ gb403)); have NB403_401 := nbs_ NB401_403; replace BK401 := am_ (blk_below q0_ hb); have NB402_403 := am_ ((by rw [hg]; exact Nat.ne_of_lt (blk_lt q1_) : gb402 ≠ gb403)); have NB403_402 := nbs_ NB402_403; replace BK402 := am_ (blk_below q1_ hb); clear q0_ q1_ q2_; clear hb hbox hg; have hnb11 := NB403_401.out; have hnc11 := NB401_403.out; have hnb12 := NB403_402.out; have hnc12 := NB402_403.out; obtain ⟨hcz13_0, hcz13_1⟩ := cells_2 BK403.out; obtain ⟨hfz13_0, hfz13_1⟩ := frozen_2 BK403.out; obtain ⟨hcz14_0, hcz14_1⟩ := cells_2 BK402.out; obtain ⟨hfz14_0, hfz14_1⟩ := frozen_2 BK402.out; have hcz15 := cells_11 BK401.out; have hfz15 := frozen_11 BK401.out) | ((with_reducible refine gate_callee (f := 84) rfl ?_); refine gom_ (some 10) Try.func84 (conf_span_has.calls 4 13 a0_0 _ _ A2.out) ?_; rintro e w16 ⟨rfl, hb⟩; refine ⟨_, rfl, ?_⟩; replace BK401 := am_ (blk_below (g := gb401) (o := .cells #[.int .i64 a0_0, .int .i64 a0_1, .int .i64 a0_2, .int .i64 a0_3, .int .i64 a0_4, .int .i64 a0_5, .int .i64 a0_6, .int .i64 a0_7, .int .i64 a0_8, .int .i64 a0_9, .slice A0_10 l0_10.length c0_10] 24 (0, 0)) (by (iterate 2 ((with_reducible repeat (first | apply kn_ | apply kd_ | apply ka_)); refine blk_far ?_ NB401_403.out _)); (with_reducible repeat (first | apply kn_ | apply kd_ | apply ka_)); exact BK401.out) hb); replace BK402 := am_ (blk_below (g := gb402) (o := .cells #[.int .i64 4, .int .i64 13] 87 (0, 0)) (by (iterate 2 ((with_reducible repeat (first | apply kn_ | apply kd_ | apply ka_)); refine blk_far ?_ NB402_403.out _)); (with_reducible repeat (first | apply kn_ | apply kd_ | apply ka_)); exact BK402.out) hb); replace BK403 := am_ (blk_below (g := gb403) (o := .cells #[.int .i64 0, .int .i64 4] 87 (0, 0)) (by (with_reducible repeat (first | apply kn_ | apply kd_ | apply ka_)); refine blk_put (cs := #[.int .i64 0, .int .i64 0]) ?_ 1 _ rfl; (with_reducible repeat (first | apply kn_ | apply kd_ | apply ka_)); refine blk_put (cs := #[.int .i64 0, .int .i64 0]) ?_ 0 _ rfl; (with_reducible repeat (first | apply kn_ | apply kd_ | apply ka_)); exact BK403.out) hb); replace HB := am_ (below_step (by repeat (first | (with_reducible first | exact HB.out | apply ba_ | apply bn_ | apply bd_ | refine bs_ ?_ GE401.out | refine bs_ ?_ GE402.out | refine bs_ ?_ GE403.out) | exact HB.out)) hb); (try clear hb); obtain ⟨hcz17_0, hcz17_1⟩ := cells_2 BK403.out; obtain ⟨hfz17_0, hfz17_1⟩ := frozen_2 BK403.out; have hcz18 := cells_11 BK401.out; have hfz18 := frozen_11 BK401.out) | (go_at_call 84; (with_reducible refine (conf_span_has.calls 0 4 a0_1 _ _ A4.out).mono ?_); rintro e w19 ⟨rfl, hb⟩; replace BK401 := bkb_ BK401 hb; replace BK402 := bkb_ BK402 hb; replace BK403 := bkb_ BK403 hb; replace HB := bst_ HB hb; (try clear hb); have hcz20 := cells_11 BK401.out; have hfz20 := frozen_11 BK401.out))
   go_ret
   exact ⟨by first | rfl | (simp [*] <;> rfl), by repeat (first | (with_reducible first | exact HB.out | apply ba_ | apply bn_ | apply bd_ | refine bs_ ?_ GE401.out | refine bs_ ?_ GE402.out | refine bs_ ?_ GE403.out) | exact HB.out)⟩
  ·replace c5 := Bool.eq_false_iff.mpr c5
   subst c5
   rw [if_neg (show ¬ (false = true) by decide)] at H
   obtain rfl := Option.some.inj H
   go_enter Try.func83, Try.ntmps83
   go_wp2_with (first | ((with_reducible refine gate_dst (N := 1) rfl ?_); refine bxe_ 1 24 #[.int .i64 a0_0, .int .i64 a0_1, .int .i64 a0_2, .int .i64 a0_3, .int .i64 a0_4, .int .i64 a0_5, .int .i64 a0_6, .int .i64 a0_7, .int .i64 a0_8, .int .i64 a0_9, .slice A0_10 l0_10.length c0_10] ?_; intro gb401 hg w21 hbox hb; have BK401 := am_ (hbox); have GW401 := gwk_ HB hg; have GE401 := GW401; replace HB := bst_ HB hb; clear hb hbox hg) | ((with_reducible refine gate_dst (N := 3) rfl ?_); refine bxe_ 3 87 #[.int .i64 0, .int .i64 0] ?_; intro gb402 hg w22 hbox hb; have BK402 := am_ (hbox); have GW402 := gwk_ HB hg; have GE402 := GW402; replace HB := bst_ HB hb; have NB401_402 := nbk_ BK401 hg; have NB402_401 := nbs_ NB401_402; replace BK401 := bkb_ BK401 hb; clear hb hbox hg; have hnb23 := NB402_401.out; have hnc23 := NB401_402.out; obtain ⟨hcz24_0, hcz24_1⟩ := cells_2 BK402.out; obtain ⟨hfz24_0, hfz24_1⟩ := frozen_2 BK402.out) | ((with_reducible refine gate_dst (N := 4) rfl ?_); refine bxe_ 4 87 #[.int .i64 0, .int .i64 0] ?_; intro gb403 hg w25 hbox hb; have q0_ := blk_of hb (g := gb401) (o := .cells #[.int .i64 a0_0, .int .i64 a0_1, .int .i64 a0_2, .int .i64 a0_3, .int .i64 a0_4, .int .i64 a0_5, .int .i64 a0_6, .int .i64 a0_7, .int .i64 a0_8, .int .i64 a0_9, .slice A0_10 l0_10.length c0_10] 24 (0, 0)) (by (iterate 2 ((with_reducible repeat (first | apply kn_ | apply kd_ | apply ka_)); refine blk_far ?_ NB401_402.out _)); (with_reducible repeat (first | apply kn_ | apply kd_ | apply ka_)); exact BK401.out); have q1_ := blk_of hb (g := gb402) (o := .cells #[.int .i64 4, .int .i64 13] 87 (0, 0)) (by (with_reducible repeat (first | apply kn_ | apply kd_ | apply ka_)); refine blk_put (cs := #[.int .i64 4, .int .i64 0]) ?_ 1 _ rfl; (with_reducible repeat (first | apply kn_ | apply kd_ | apply ka_)); refine blk_put (cs := #[.int .i64 0, .int .i64 0]) ?_ 0 _ rfl; (with_reducible repeat (first | apply kn_ | apply kd_ | apply ka_)); exact BK402.out); have q2_ := below_of hb (by repeat (first | (with_reducible first | exact HB.out | apply ba_ | apply bn_ | apply bd_ | refine bs_ ?_ GE401.out | refine bs_ ?_ GE402.out) | exact HB.out)); have BK403 := am_ (hbox); have GW403 := am_ ((by rw [hg]; exact (below_size q2_) : w.heap.size ≤ gb403)); have GE403 := GW403; replace HB := am_ (below_step q2_ hb); have NB401_403 := am_ ((by rw [hg]; exact Nat.ne_of_lt (blk_lt q0_) : gb401 ≠ gb403)); have NB403_401 := nbs_ NB401_403; replace BK401 := am_ (blk_below q0_ hb); have NB402_403 := am_ ((by rw [hg]; exact Nat.ne_of_lt (blk_lt q1_) : gb402 ≠ gb403)); have NB403_402 := nbs_ NB402_403; replace BK402 := am_ (blk_below q1_ hb); clear q0_ q1_ q2_; clear hb hbox hg; have hnb26 := NB403_401.out; have hnc26 := NB401_403.out; have hnb27 := NB403_402.out; have hnc27 := NB402_403.out; obtain ⟨hcz28_0, hcz28_1⟩ := cells_2 BK403.out; obtain ⟨hfz28_0, hfz28_1⟩ := frozen_2 BK403.out; obtain ⟨hcz29_0, hcz29_1⟩ := cells_2 BK402.out; obtain ⟨hfz29_0, hfz29_1⟩ := frozen_2 BK402.out; have hcz30 := cells_11 BK401.out; have hfz30 := frozen_11 BK401.out) | ((with_reducible refine gate_callee (f := 84) rfl ?_); refine gom_ (some 10) Try.func84 (conf_span_has.calls 4 13 a0_0 _ _ A2.out) ?_; rintro e w31 ⟨rfl, hb⟩; refine ⟨_, rfl, ?_⟩; replace BK401 := am_ (blk_below (g := gb401) (o := .cells #[.int .i64 a0_0, .int .i64 a0_1, .int .i64 a0_2, .int .i64 a0_3, .int .i64 a0_4, .int .i64 a0_5, .int .i64 a0_6, .int .i64 a0_7, .int .i64 a0_8, .int .i64 a0_9, .slice A0_10 l0_10.length c0_10] 24 (0, 0)) (by (iterate 2 ((with_reducible repeat (first | apply kn_ | apply kd_ | apply ka_)); refine blk_far ?_ NB401_403.out _)); (with_reducible repeat (first | apply kn_ | apply kd_ | apply ka_)); exact BK401.out) hb); replace BK402 := am_ (blk_below (g := gb402) (o := .cells #[.int .i64 4, .int .i64 13] 87 (0, 0)) (by (iterate 2 ((with_reducible repeat (first | apply kn_ | apply kd_ | apply ka_)); refine blk_far ?_ NB402_403.out _)); (with_reducible repeat (first | apply kn_ | apply kd_ | apply ka_)); exact BK402.out) hb); replace BK403 := am_ (blk_below (g := gb403) (o := .cells #[.int .i64 0, .int .i64 4] 87 (0, 0)) (by (with_reducible repeat (first | apply kn_ | apply kd_ | apply ka_)); refine blk_put (cs := #[.int .i64 0, .int .i64 0]) ?_ 1 _ rfl; (with_reducible repeat (first | apply kn_ | apply kd_ | apply ka_)); refine blk_put (cs := #[.int .i64 0, .int .i64 0]) ?_ 0 _ rfl; (with_reducible repeat (first | apply kn_ | apply kd_ | apply ka_)); exact BK403.out) hb); replace HB := am_ (below_step (by repeat (first | (with_reducible first | exact HB.out | apply ba_ | apply bn_ | apply bd_ | refine bs_ ?_ GE401.out | refine bs_ ?_ GE402.out | refine bs_ ?_ GE403.out) | exact HB.out)) hb); (try clear hb); obtain ⟨hcz32_0, hcz32_1⟩ := cells_2 BK403.out; obtain ⟨hfz32_0, hfz32_1⟩ := frozen_2 BK403.out; have hcz33 := cells_11 BK401.out; have hfz33 := frozen_11 BK401.out) | (go_at_call 84; (with_reducible refine (conf_span_has.calls 0 4 a0_1 _ _ A4.out).mono ?_); rintro e w34 ⟨rfl, hb⟩; replace BK401 := bkb_ BK401 hb; replace BK402 := bkb_ BK402 hb; replace BK403 := bkb_ BK403 hb; replace HB := bst_ HB hb; (try clear hb)))
   go_ret
   exact ⟨by first | rfl | (simp [*] <;> rfl), by repeat (first | (with_reducible first | exact HB.out | apply ba_ | apply bn_ | apply bd_ | refine bs_ ?_ GE401.out | refine bs_ ?_ GE402.out | refine bs_ ?_ GE403.out) | exact HB.out)⟩
 ·replace c3 := Bool.eq_false_iff.mpr c3
  subst c3
  rw [if_neg (show ¬ (false = true) by decide)] at H
  obtain rfl := Option.some.inj H
  go_enter Try.func83, Try.ntmps83
  go_wp2_with (first | ((with_reducible refine gate_dst (N := 1) rfl ?_); refine bxe_ 1 24 #[.int .i64 a0_0, .int .i64 a0_1, .int .i64 a0_2, .int .i64 a0_3, .int .i64 a0_4, .int .i64 a0_5, .int .i64 a0_6, .int .i64 a0_7, .int .i64 a0_8, .int .i64 a0_9, .slice A0_10 l0_10.length c0_10] ?_; intro gb401 hg w35 hbox hb; have BK401 := am_ (hbox); have GW401 := gwk_ HB hg; have GE401 := GW401; replace HB := bst_ HB hb; clear hb hbox hg) | ((with_reducible refine gate_dst (N := 3) rfl ?_); refine bxe_ 3 87 #[.int .i64 0, .int .i64 0] ?_; intro gb402 hg w36 hbox hb; have BK402 := am_ (hbox); have GW402 := gwk_ HB hg; have GE402 := GW402; replace HB := bst_ HB hb; have NB401_402 := nbk_ BK401 hg; have NB402_401 := nbs_ NB401_402; replace BK401 := bkb_ BK401 hb; clear hb hbox hg; have hnb37 := NB402_401.out; have hnc37 := NB401_402.out; obtain ⟨hcz38_0, hcz38_1⟩ := cells_2 BK402.out; obtain ⟨hfz38_0, hfz38_1⟩ := frozen_2 BK402.out) | ((with_reducible refine gate_dst (N := 4) rfl ?_); refine bxe_ 4 87 #[.int .i64 0, .int .i64 0] ?_; intro gb403 hg w39 hbox hb; have q0_ := blk_of hb (g := gb401) (o := .cells #[.int .i64 a0_0, .int .i64 a0_1, .int .i64 a0_2, .int .i64 a0_3, .int .i64 a0_4, .int .i64 a0_5, .int .i64 a0_6, .int .i64 a0_7, .int .i64 a0_8, .int .i64 a0_9, .slice A0_10 l0_10.length c0_10] 24 (0, 0)) (by (iterate 2 ((with_reducible repeat (first | apply kn_ | apply kd_ | apply ka_)); refine blk_far ?_ NB401_402.out _)); (with_reducible repeat (first | apply kn_ | apply kd_ | apply ka_)); exact BK401.out); have q1_ := blk_of hb (g := gb402) (o := .cells #[.int .i64 4, .int .i64 13] 87 (0, 0)) (by (with_reducible repeat (first | apply kn_ | apply kd_ | apply ka_)); refine blk_put (cs := #[.int .i64 4, .int .i64 0]) ?_ 1 _ rfl; (with_reducible repeat (first | apply kn_ | apply kd_ | apply ka_)); refine blk_put (cs := #[.int .i64 0, .int .i64 0]) ?_ 0 _ rfl; (with_reducible repeat (first | apply kn_ | apply kd_ | apply ka_)); exact BK402.out); have q2_ := below_of hb (by repeat (first | (with_reducible first | exact HB.out | apply ba_ | apply bn_ | apply bd_ | refine bs_ ?_ GE401.out | refine bs_ ?_ GE402.out) | exact HB.out)); have BK403 := am_ (hbox); have GW403 := am_ ((by rw [hg]; exact (below_size q2_) : w.heap.size ≤ gb403)); have GE403 := GW403; replace HB := am_ (below_step q2_ hb); have NB401_403 := am_ ((by rw [hg]; exact Nat.ne_of_lt (blk_lt q0_) : gb401 ≠ gb403)); have NB403_401 := nbs_ NB401_403; replace BK401 := am_ (blk_below q0_ hb); have NB402_403 := am_ ((by rw [hg]; exact Nat.ne_of_lt (blk_lt q1_) : gb402 ≠ gb403)); have NB403_402 := nbs_ NB402_403; replace BK402 := am_ (blk_below q1_ hb); clear q0_ q1_ q2_; clear hb hbox hg; have hnb40 := NB403_401.out; have hnc40 := NB401_403.out; have hnb41 := NB403_402.out; have hnc41 := NB402_403.out; obtain ⟨hcz42_0, hcz42_1⟩ := cells_2 BK403.out; obtain ⟨hfz42_0, hfz42_1⟩ := frozen_2 BK403.out; obtain ⟨hcz43_0, hcz43_1⟩ := cells_2 BK402.out; obtain ⟨hfz43_0, hfz43_1⟩ := frozen_2 BK402.out; have hcz44 := cells_11 BK401.out; have hfz44 := frozen_11 BK401.out) | ((with_reducible refine gate_callee (f := 84) rfl ?_); refine gom_ (some 10) Try.func84 (conf_span_has.calls 4 13 a0_0 _ _ A2.out) ?_; rintro e w45 ⟨rfl, hb⟩; refine ⟨_, rfl, ?_⟩; replace BK401 := am_ (blk_below (g := gb401) (o := .cells #[.int .i64 a0_0, .int .i64 a0_1, .int .i64 a0_2, .int .i64 a0_3, .int .i64 a0_4, .int .i64 a0_5, .int .i64 a0_6, .int .i64 a0_7, .int .i64 a0_8, .int .i64 a0_9, .slice A0_10 l0_10.length c0_10] 24 (0, 0)) (by (iterate 2 ((with_reducible repeat (first | apply kn_ | apply kd_ | apply ka_)); refine blk_far ?_ NB401_403.out _)); (with_reducible repeat (first | apply kn_ | apply kd_ | apply ka_)); exact BK401.out) hb); replace BK402 := am_ (blk_below (g := gb402) (o := .cells #[.int .i64 4, .int .i64 13] 87 (0, 0)) (by (iterate 2 ((with_reducible repeat (first | apply kn_ | apply kd_ | apply ka_)); refine blk_far ?_ NB402_403.out _)); (with_reducible repeat (first | apply kn_ | apply kd_ | apply ka_)); exact BK402.out) hb); replace BK403 := am_ (blk_below (g := gb403) (o := .cells #[.int .i64 0, .int .i64 4] 87 (0, 0)) (by (with_reducible repeat (first | apply kn_ | apply kd_ | apply ka_)); refine blk_put (cs := #[.int .i64 0, .int .i64 0]) ?_ 1 _ rfl; (with_reducible repeat (first | apply kn_ | apply kd_ | apply ka_)); refine blk_put (cs := #[.int .i64 0, .int .i64 0]) ?_ 0 _ rfl; (with_reducible repeat (first | apply kn_ | apply kd_ | apply ka_)); exact BK403.out) hb); replace HB := am_ (below_step (by repeat (first | (with_reducible first | exact HB.out | apply ba_ | apply bn_ | apply bd_ | refine bs_ ?_ GE401.out | refine bs_ ?_ GE402.out | refine bs_ ?_ GE403.out) | exact HB.out)) hb); (try clear hb)))
  go_ret
  exact ⟨by first | rfl | (simp [*] <;> rfl), by repeat (first | (with_reducible first | exact HB.out | apply ba_ | apply bn_ | apply bd_ | refine bs_ ?_ GE401.out | refine bs_ ?_ GE402.out | refine bs_ ?_ GE403.out) | exact HB.out)⟩
def conf_numbers.l0 : Nat → List (S95) → Int → Int → Option (Bool)
 | 0, _, _, _ => none
 | k + 1, x44, x45, x46 => if x46 < x45 then (if 0 ≤ x46 then (if x46 < (x44.length : Int) then ((conf_span_has.f ((rd_T95 x44 x46).f1.f0) ((rd_T95 x44 x46).f1.f1) ((rd_T95 x44 x46).f0)).bind fun t407 => (if t407 = true then (conf_numbers.l0 k x44 x45 (wrap64 (x46 + 1))) else (some false))) else (none)) else (none)) else (some true)
def conf_numbers.f (k : Nat) (a0_0 a0_1 a0_2 a0_3 a0_4 a0_5 a0_6 a0_7 a0_8 a0_9 : Int) (l0_10 : List Int) : Option (Bool) := (some (([(⟨a0_3, (⟨wrap64 ((wrap64 ((wrap64 (6 * (wrap64 (a0_1 + 1)))) * a0_2)) + 1), 400⟩ : S87)⟩ : S95), (⟨a0_4, (⟨1, 64⟩ : S87)⟩ : S95), (⟨a0_5, (⟨0, wrap64 (a0_4 - 1)⟩ : S87)⟩ : S95), (⟨a0_6, (⟨0, 30000⟩ : S87)⟩ : S95), (⟨a0_7, (⟨1, 30000⟩ : S87)⟩ : S95), (⟨a0_8, (⟨2, 250⟩ : S87)⟩ : S95), (⟨a0_9, (⟨1, 100⟩ : S87)⟩ : S95)] : List (S95)) : List (S95))).bind fun y402 => (conf_numbers.l0 k y402 (y402.length : Int) 0)
theorem conf_numbers.mono_l : ∀ k, (∀ y0 y1 y2, LeO (conf_numbers.l0 k y0 y1 y2) (conf_numbers.l0 (k + 1) y0 y1 y2))
 | 0 => fun _ _ _ r h => by simp [conf_numbers.l0] at h
 | k + 1 => by
  have ih0 := conf_numbers.mono_l k
  ·intro y0 y1 y2
   unfold conf_numbers.l0
   repeat' first
   | (with_reducible exact ih0 _ _ _)
   | (with_reducible exact LeO.refl _)
   | (with_reducible exact LeO.none _)
   | (with_reducible refine LeO.ite ?_ ?_)
   | (with_reducible refine LeO.bind ?_ (fun _ => ?_))
   | exact ih0 _ _ _
   | exact LeO.none _
   | refine LeO.ite ?_ ?_
   | refine LeO.bind ?_ (fun _ => ?_)
theorem conf_numbers.mono : ∀ a0 a1 a2 a3 a4 a5 a6 a7 a8 a9 a10 k, LeO (conf_numbers.f k a0 a1 a2 a3 a4 a5 a6 a7 a8 a9 a10) (conf_numbers.f (k + 1) a0 a1 a2 a3 a4 a5 a6 a7 a8 a9 a10) := by
 intro a0 a1 a2 a3 a4 a5 a6 a7 a8 a9 a10 k
 have ih0 := conf_numbers.mono_l k
 unfold conf_numbers.f
 repeat' first
   | (with_reducible exact ih0 _ _ _)
   | (with_reducible exact LeO.refl _)
   | (with_reducible exact LeO.none _)
   | (with_reducible refine LeO.ite ?_ ?_)
   | (with_reducible refine LeO.bind ?_ (fun _ => ?_))
   | exact ih0 _ _ _
   | exact LeO.none _
   | refine LeO.ite ?_ ?_
   | refine LeO.bind ?_ (fun _ => ?_)
set_option maxHeartbeats 8000000 in
set_option maxRecDepth 100000 in
theorem conf_numbers.calls (k : Nat) (a0_0 a0_1 a0_2 a0_3 a0_4 a0_5 a0_6 a0_7 a0_8 a0_9 : Int) (A0_10 : Option Addr) (c0_10 : Nat) (l0_10 : List Int) (r : Bool) (w : World) (hr0_10 : Kd.C (Kd.int .i64) w A0_10 l0_10.length l0_10) (hc0_10 : l0_10.length ≤ c0_10) (h : conf_numbers.f k a0_0 a0_1 a0_2 a0_3 a0_4 a0_5 a0_6 a0_7 a0_8 a0_9 l0_10 = some r) :
  Calls Try.prog 85 #[.agg #[.int .i64 a0_0, .int .i64 a0_1, .int .i64 a0_2, .int .i64 a0_3, .int .i64 a0_4, .int .i64 a0_5, .int .i64 a0_6, .int .i64 a0_7, .int .i64 a0_8, .int .i64 a0_9, .slice A0_10 l0_10.length c0_10]] w fun e w' => e = .returned (.bool r) ∧ Below w.heap.size w w' := by
 have hu24 := Try.underlying24
 have hu87 := Try.underlying87
 have hu95 := Try.underlying95
 have HR0_10 := am_ hr0_10
 have HC0_10 := am_ hc0_10
 clear hr0_10 hc0_10
 have HB := am_ (Below.refl w.heap.size w)
 have H := h
 unfold conf_numbers.f at H
 clear h
 obtain ⟨y402, hy402⟩ : ∃ y_ : List (S95), y_ = (([(⟨a0_3, (⟨wrap64 ((wrap64 ((wrap64 (6 * (wrap64 (a0_1 + 1)))) * a0_2)) + 1), 400⟩ : S87)⟩ : S95), (⟨a0_4, (⟨1, 64⟩ : S87)⟩ : S95), (⟨a0_5, (⟨0, wrap64 (a0_4 - 1)⟩ : S87)⟩ : S95), (⟨a0_6, (⟨0, 30000⟩ : S87)⟩ : S95), (⟨a0_7, (⟨1, 30000⟩ : S87)⟩ : S95), (⟨a0_8, (⟨2, 250⟩ : S87)⟩ : S95), (⟨a0_9, (⟨1, 100⟩ : S87)⟩ : S95)] : List (S95))) := ⟨_, rfl⟩
 replace H : (conf_numbers.l0 k y402 (y402.length : Int) 0) = some r := by first | (rw [hy402]; with_reducible exact H) | (have H2_ := (Option.bind_some _ _).symm.trans H; rw [hy402]; with_reducible exact H2_) | (have H2_ := (Option.bind_some _ _).symm.trans H; with_reducible exact H2_) | with_reducible exact H | (rw [hy402]; exact H) | exact H
 have Ny402 := am_ hy402
 clear hy402
 have H' := am_ H
 clear H
 go_enter Try.func85, Try.ntmps85
 go_wp2_with (first | ((with_reducible refine gate_dst (N := 1) rfl ?_); refine bxe_ 1 24 #[.int .i64 a0_0, .int .i64 a0_1, .int .i64 a0_2, .int .i64 a0_3, .int .i64 a0_4, .int .i64 a0_5, .int .i64 a0_6, .int .i64 a0_7, .int .i64 a0_8, .int .i64 a0_9, .slice A0_10 l0_10.length c0_10] ?_; intro gb401 hg w2 hbox hb; have BK401 := am_ (hbox); have GW401 := gwk_ HB hg; have GE401 := GW401; replace HB := bst_ HB hb; clear hb hbox hg; have hcz3 := cells_11 BK401.out; have hfz3 := frozen_11 BK401.out) | ((with_reducible refine gate_dst (N := 44) rfl ?_); refine Kd.R_lit k95 _ 95 ?hg (N := 44) ?hd (xs := ([(⟨a0_3, (⟨wrap64 ((wrap64 ((wrap64 (6 * (wrap64 (a0_1 + 1)))) * a0_2)) + 1), 400⟩ : S87)⟩ : S95), (⟨a0_4, (⟨1, 64⟩ : S87)⟩ : S95), (⟨a0_5, (⟨0, wrap64 (a0_4 - 1)⟩ : S87)⟩ : S95), (⟨a0_6, (⟨0, 30000⟩ : S87)⟩ : S95), (⟨a0_7, (⟨1, 30000⟩ : S87)⟩ : S95), (⟨a0_8, (⟨2, 250⟩ : S87)⟩ : S95), (⟨a0_9, (⟨1, 100⟩ : S87)⟩ : S95)] : List (S95))) (inner := [.int .i64 a0_3, .int .i64 (wrap64 ((wrap64 ((wrap64 (6 * (wrap64 (a0_1 + 1)))) * a0_2)) + 1)), .int .i64 400, .int .i64 a0_4, .int .i64 1, .int .i64 64, .int .i64 a0_5, .int .i64 0, .int .i64 (wrap64 (a0_4 - 1)), .int .i64 a0_6, .int .i64 0, .int .i64 30000, .int .i64 a0_7, .int .i64 1, .int .i64 30000, .int .i64 a0_8, .int .i64 2, .int .i64 250, .int .i64 a0_9, .int .i64 1, .int .i64 100]) (ok := fun _ => True) (okp := fun _ => True) ?hr ?hp (fun _ hk => hk) trivial (Below.refl _ _) (Nat.le_refl _) (by simp) ?_; (case hd => rfl); (case hg => rfl); (case hr => first | (go_simp; done) | (go_simp; rfl)); (case hp => exact (Reps.c3 (show Kd.M k95 _ _ _ (⟨a0_3, (⟨wrap64 ((wrap64 ((wrap64 (6 * (wrap64 (a0_1 + 1)))) * a0_2)) + 1), 400⟩ : S87)⟩ : S95) [.int .i64 a0_3, .int .i64 (wrap64 ((wrap64 ((wrap64 (6 * (wrap64 (a0_1 + 1)))) * a0_2)) + 1)), .int .i64 400] from (k95_mkM _ _ _ (⟨a0_3, (⟨wrap64 ((wrap64 ((wrap64 (6 * (wrap64 (a0_1 + 1)))) * a0_2)) + 1), 400⟩ : S87)⟩ : S95) )) (Reps.c3 (show Kd.M k95 _ _ _ (⟨a0_4, (⟨1, 64⟩ : S87)⟩ : S95) [.int .i64 a0_4, .int .i64 1, .int .i64 64] from (k95_mkM _ _ _ (⟨a0_4, (⟨1, 64⟩ : S87)⟩ : S95) )) (Reps.c3 (show Kd.M k95 _ _ _ (⟨a0_5, (⟨0, wrap64 (a0_4 - 1)⟩ : S87)⟩ : S95) [.int .i64 a0_5, .int .i64 0, .int .i64 (wrap64 (a0_4 - 1))] from (k95_mkM _ _ _ (⟨a0_5, (⟨0, wrap64 (a0_4 - 1)⟩ : S87)⟩ : S95) )) (Reps.c3 (show Kd.M k95 _ _ _ (⟨a0_6, (⟨0, 30000⟩ : S87)⟩ : S95) [.int .i64 a0_6, .int .i64 0, .int .i64 30000] from (k95_mkM _ _ _ (⟨a0_6, (⟨0, 30000⟩ : S87)⟩ : S95) )) (Reps.c3 (show Kd.M k95 _ _ _ (⟨a0_7, (⟨1, 30000⟩ : S87)⟩ : S95) [.int .i64 a0_7, .int .i64 1, .int .i64 30000] from (k95_mkM _ _ _ (⟨a0_7, (⟨1, 30000⟩ : S87)⟩ : S95) )) (Reps.c3 (show Kd.M k95 _ _ _ (⟨a0_8, (⟨2, 250⟩ : S87)⟩ : S95) [.int .i64 a0_8, .int .i64 2, .int .i64 250] from (k95_mkM _ _ _ (⟨a0_8, (⟨2, 250⟩ : S87)⟩ : S95) )) (Reps.c3 (show Kd.M k95 _ _ _ (⟨a0_9, (⟨1, 100⟩ : S87)⟩ : S95) [.int .i64 a0_9, .int .i64 1, .int .i64 100] from (k95_mkM _ _ _ (⟨a0_9, (⟨1, 100⟩ : S87)⟩ : S95) )) (Reps.none _ _))))))))); intro v403 w4 ho5 hb hg_ hnew_; clear hg_ hnew_; (first | rw [← Ny402.out] at ho5 | (simp only [Int.reduceToNat] at ho5; rw [← Ny402.out] at ho5)); have HO404 := am_ (Kd.R_lower ho5 (below_size HB.out)); replace BK401 := bkb_ BK401 hb; replace HB := bst_ HB hb; clear hb ho5; obtain ⟨Ao6, co6, eo6⟩ := Kd.R_slice HO404.out; subst eo6))
 go_loopg [46] k (fun kq v46 w' => ∃ (x46_1 : Int), v46 = .int .i64 x46_1 ∧ Aside0 (conf_numbers.l0 kq y402 (y402.length : Int) x46_1 = some r) ∧ Aside0 (kq ≤ k) ∧ Aside0 (Kd.R k95 95 w' w.heap.size (fun _ => True) (.slice Ao6 y402.length co6) y402) ∧ Aside0 (w'.heap[gb401]? = some (.cells #[.int .i64 a0_0, .int .i64 a0_1, .int .i64 a0_2, .int .i64 a0_3, .int .i64 a0_4, .int .i64 a0_5, .int .i64 a0_6, .int .i64 a0_7, .int .i64 a0_8, .int .i64 a0_9, (.slice A0_10 l0_10.length c0_10)] 24 (0, 0))) ∧ Aside0 (Below w.heap.size w w'))
 case atStart => exact ⟨(0), (by first | rfl | (simp; done) | (simp [*]; done)), H', ⟨Nat.le_refl _⟩, ⟨by (with_reducible repeat (first | apply Kd.R_alloc | apply Kd.R_drewN | apply Kd.R_drew)); exact HO404.out⟩, ⟨by (with_reducible repeat (first | apply kn_ | apply kd_ | apply ka_)); exact BK401.out⟩, ⟨by repeat (first | (with_reducible first | exact HB.out | apply ba_ | apply bn_ | apply bd_ | refine bs_ ?_ GE401.out) | exact HB.out)⟩⟩
 case round =>
  clear H'
  try clear p2
  try clear c3
  try clear p6
  try clear hcz3
  try clear hfz3
  obtain ⟨x46_1, rfl, HA, HK1, HO_44, BK401, HB⟩ := hrel
  cases gk with
  | zero => exact absurd HA.out (by simp [conf_numbers.l0])
  | succ k1 =>
   have H := HA.out
   clear HA
   simp only [conf_numbers.l0] at H
   by_cases c7 : x46_1 < (y402.length : Int)
   ·rw [if_pos c7] at H
    have c7b0 : decide (x46_1 < (y402.length : Int)) = true := decide_eq_true c7
    clear c7
    by_cases c8 : 0 ≤ x46_1
    ·rw [if_pos c8] at H
     have c8b0 : decide (0 ≤ x46_1) = true := decide_eq_true c8
     clear c8
     by_cases c9 : x46_1 < (y402.length : Int)
     ·rw [if_pos c9] at H
      have c9b0 : decide (x46_1 < (y402.length : Int)) = true := decide_eq_true c9
      clear c9
      obtain ⟨t407, A10, H⟩ := bes_ H
      try dsimp only at H
      by_cases c11 : t407 = true
      ·subst c11
       rw [if_pos rfl] at H
       have H' := am_ H
       clear H
       have p405 : 0 ≤ (x46_1 : Int) := of_decide_eq_true (by first | (with_reducible assumption) | assumption)
       have q405 : x46_1 < (y402.length : Int) := of_decide_eq_true (by first | (with_reducible assumption) | assumption)
       obtain ⟨ad405, e405, hx405_0, hx405_1, hx405_2⟩ := at_T95 (Kd.R_reads' HO_44.out).2.2 x46_1 p405 q405
       cases e405
       replace p405 := eq_true p405
       replace q405 := eq_true q405
       go_wp2_with (first | ((with_reducible refine gate_dst (N := 4) rfl ?_); refine bxe_ 4 95 #[.int .i64 0, .int .i64 0, .int .i64 0] ?_; intro gb406 hg w12 hbox hb; replace HO_44 := am_ (Kd.R_below (Kd.R_elderB (by (with_reducible repeat (first | apply Kd.R_alloc | apply Kd.R_drewN | apply Kd.R_drew)); exact HO_44.out) gb406 (Nat.le_of_eq hg.symm)) hb); have BK406 := am_ (hbox); have GW406 := gwk_ HB hg; have GE406 := GW406; replace HB := bst_ HB hb; have NB401_406 := nbk_ BK401 hg; have NB406_401 := nbs_ NB401_406; replace BK401 := bkb_ BK401 hb; clear hb hbox hg; have hnb13 := NB406_401.out; have hnc13 := NB401_406.out; obtain ⟨hcz14_0, hcz14_1, hcz14_2⟩ := cells_3 BK406.out; obtain ⟨hfz14_0, hfz14_1, hfz14_2⟩ := frozen_3 BK406.out) | ((with_reducible refine gate_callee (f := 84) rfl ?_); refine gom_ (some 54) Try.func84 (conf_span_has.calls ((rd_T95 y402 x46_1).f1.f0) ((rd_T95 y402 x46_1).f1.f1) ((rd_T95 y402 x46_1).f0) _ _ A10.out) ?_; rintro e w15 ⟨rfl, hb⟩; refine ⟨_, rfl, ?_⟩; replace HO_44 := am_ (Kd.R_below (by (with_reducible repeat (first | apply Kd.R_alloc | apply Kd.R_drewN | apply Kd.R_drew)); exact (Kd.R_mono (Kd.R_far (p := ⟨gb406, 2, none⟩) (Kd.R_far (p := ⟨gb406, 1, none⟩) (Kd.R_far (p := ⟨gb406, 0, none⟩) (Kd.R_mono HO_44.out (fun k_ hk => (⟨hk, hk.2⟩ : _ ∧ k_ ≠ gb406))) (fun _ hk => hk.2) (.int .i64 ((rd_T95 y402 x46_1).f0))) (fun _ hk => hk.2) (.int .i64 ((rd_T95 y402 x46_1).f1.f0))) (fun _ hk => hk.2) (.int .i64 ((rd_T95 y402 x46_1).f1.f1))) (fun _ h_ => h_.1))) hb); replace BK401 := am_ (blk_below (g := gb401) (o := .cells #[.int .i64 a0_0, .int .i64 a0_1, .int .i64 a0_2, .int .i64 a0_3, .int .i64 a0_4, .int .i64 a0_5, .int .i64 a0_6, .int .i64 a0_7, .int .i64 a0_8, .int .i64 a0_9, .slice A0_10 l0_10.length c0_10] 24 (0, 0)) (by (iterate 3 ((with_reducible repeat (first | apply kn_ | apply kd_ | apply ka_)); refine blk_far ?_ NB401_406.out _)); (with_reducible repeat (first | apply kn_ | apply kd_ | apply ka_)); exact BK401.out) hb); replace BK406 := am_ (blk_below (g := gb406) (o := .cells #[.int .i64 ((rd_T95 y402 x46_1).f0), .int .i64 ((rd_T95 y402 x46_1).f1.f0), .int .i64 ((rd_T95 y402 x46_1).f1.f1)] 95 (0, 0)) (by (with_reducible repeat (first | apply kn_ | apply kd_ | apply ka_)); refine blk_put (cs := #[.int .i64 ((rd_T95 y402 x46_1).f0), .int .i64 ((rd_T95 y402 x46_1).f1.f0), .int .i64 0]) ?_ 2 _ rfl; (with_reducible repeat (first | apply kn_ | apply kd_ | apply ka_)); refine blk_put (cs := #[.int .i64 ((rd_T95 y402 x46_1).f0), .int .i64 0, .int .i64 0]) ?_ 1 _ rfl; (with_reducible repeat (first | apply kn_ | apply kd_ | apply ka_)); refine blk_put (cs := #[.int .i64 0, .int .i64 0, .int .i64 0]) ?_ 0 _ rfl; (with_reducible repeat (first | apply kn_ | apply kd_ | apply ka_)); exact BK406.out) hb); replace HB := am_ (below_step (by repeat (first | (with_reducible first | exact HB.out | apply ba_ | apply bn_ | apply bd_ | refine bs_ ?_ GE401.out | refine bs_ ?_ GE406.out) | exact HB.out)) hb); (try clear hb); (try clear hk)))
       go_roundg k1
       case measure => have := HK1.out; omega
       case rel => exact ⟨(wrap64 (x46_1 + 1)), (by first | rfl | (simp; done) | (simp [*]; done)), H', ⟨by have := HK1.out; omega⟩, ⟨by (with_reducible repeat (first | apply Kd.R_alloc | apply Kd.R_drewN | apply Kd.R_drew)); exact Kd.R_mono HO_44.out (fun _ hk => trivial)⟩, ⟨by (with_reducible repeat (first | apply kn_ | apply kd_ | apply ka_)); exact BK401.out⟩, ⟨by repeat (first | (with_reducible first | exact HB.out | apply ba_ | apply bn_ | apply bd_ | refine bs_ ?_ GE401.out | refine bs_ ?_ GE406.out) | exact HB.out)⟩⟩
      ·replace c11 := Bool.eq_false_iff.mpr c11
       subst c11
       rw [if_neg (show ¬ (false = true) by decide)] at H
       obtain rfl := Option.some.inj H
       have p405 : 0 ≤ (x46_1 : Int) := of_decide_eq_true (by first | (with_reducible assumption) | assumption)
       have q405 : x46_1 < (y402.length : Int) := of_decide_eq_true (by first | (with_reducible assumption) | assumption)
       obtain ⟨ad405, e405, hx405_0, hx405_1, hx405_2⟩ := at_T95 (Kd.R_reads' HO_44.out).2.2 x46_1 p405 q405
       cases e405
       replace p405 := eq_true p405
       replace q405 := eq_true q405
       go_wp2_with (first | ((with_reducible refine gate_dst (N := 4) rfl ?_); refine bxe_ 4 95 #[.int .i64 0, .int .i64 0, .int .i64 0] ?_; intro gb406 hg w16 hbox hb; replace HO_44 := am_ (Kd.R_below (Kd.R_elderB (by (with_reducible repeat (first | apply Kd.R_alloc | apply Kd.R_drewN | apply Kd.R_drew)); exact HO_44.out) gb406 (Nat.le_of_eq hg.symm)) hb); have BK406 := am_ (hbox); have GW406 := gwk_ HB hg; have GE406 := GW406; replace HB := bst_ HB hb; have NB401_406 := nbk_ BK401 hg; have NB406_401 := nbs_ NB401_406; replace BK401 := bkb_ BK401 hb; clear hb hbox hg; have hnb17 := NB406_401.out; have hnc17 := NB401_406.out; obtain ⟨hcz18_0, hcz18_1, hcz18_2⟩ := cells_3 BK406.out; obtain ⟨hfz18_0, hfz18_1, hfz18_2⟩ := frozen_3 BK406.out) | ((with_reducible refine gate_callee (f := 84) rfl ?_); refine gom_ (some 54) Try.func84 (conf_span_has.calls ((rd_T95 y402 x46_1).f1.f0) ((rd_T95 y402 x46_1).f1.f1) ((rd_T95 y402 x46_1).f0) _ _ A10.out) ?_; rintro e w19 ⟨rfl, hb⟩; refine ⟨_, rfl, ?_⟩; replace HO_44 := am_ (Kd.R_below (by (with_reducible repeat (first | apply Kd.R_alloc | apply Kd.R_drewN | apply Kd.R_drew)); exact (Kd.R_mono (Kd.R_far (p := ⟨gb406, 2, none⟩) (Kd.R_far (p := ⟨gb406, 1, none⟩) (Kd.R_far (p := ⟨gb406, 0, none⟩) (Kd.R_mono HO_44.out (fun k_ hk => (⟨hk, hk.2⟩ : _ ∧ k_ ≠ gb406))) (fun _ hk => hk.2) (.int .i64 ((rd_T95 y402 x46_1).f0))) (fun _ hk => hk.2) (.int .i64 ((rd_T95 y402 x46_1).f1.f0))) (fun _ hk => hk.2) (.int .i64 ((rd_T95 y402 x46_1).f1.f1))) (fun _ h_ => h_.1))) hb); replace BK401 := am_ (blk_below (g := gb401) (o := .cells #[.int .i64 a0_0, .int .i64 a0_1, .int .i64 a0_2, .int .i64 a0_3, .int .i64 a0_4, .int .i64 a0_5, .int .i64 a0_6, .int .i64 a0_7, .int .i64 a0_8, .int .i64 a0_9, .slice A0_10 l0_10.length c0_10] 24 (0, 0)) (by (iterate 3 ((with_reducible repeat (first | apply kn_ | apply kd_ | apply ka_)); refine blk_far ?_ NB401_406.out _)); (with_reducible repeat (first | apply kn_ | apply kd_ | apply ka_)); exact BK401.out) hb); replace BK406 := am_ (blk_below (g := gb406) (o := .cells #[.int .i64 ((rd_T95 y402 x46_1).f0), .int .i64 ((rd_T95 y402 x46_1).f1.f0), .int .i64 ((rd_T95 y402 x46_1).f1.f1)] 95 (0, 0)) (by (with_reducible repeat (first | apply kn_ | apply kd_ | apply ka_)); refine blk_put (cs := #[.int .i64 ((rd_T95 y402 x46_1).f0), .int .i64 ((rd_T95 y402 x46_1).f1.f0), .int .i64 0]) ?_ 2 _ rfl; (with_reducible repeat (first | apply kn_ | apply kd_ | apply ka_)); refine blk_put (cs := #[.int .i64 ((rd_T95 y402 x46_1).f0), .int .i64 0, .int .i64 0]) ?_ 1 _ rfl; (with_reducible repeat (first | apply kn_ | apply kd_ | apply ka_)); refine blk_put (cs := #[.int .i64 0, .int .i64 0, .int .i64 0]) ?_ 0 _ rfl; (with_reducible repeat (first | apply kn_ | apply kd_ | apply ka_)); exact BK406.out) hb); replace HB := am_ (below_step (by repeat (first | (with_reducible first | exact HB.out | apply ba_ | apply bn_ | apply bd_ | refine bs_ ?_ GE401.out | refine bs_ ?_ GE406.out) | exact HB.out)) hb); (try clear hb); (try clear hk)))
       go_ret
       exact ⟨by first | rfl | (simp [*] <;> rfl), by repeat (first | (with_reducible first | exact HB.out | apply ba_ | apply bn_ | apply bd_ | refine bs_ ?_ GE401.out | refine bs_ ?_ GE406.out) | exact HB.out)⟩
     ·rw [if_neg c9] at H
      exact absurd H (by simp)
    ·rw [if_neg c8] at H
     exact absurd H (by simp)
   ·rw [if_neg c7] at H
    have c7b0 : decide (x46_1 < (y402.length : Int)) = false := decide_eq_false c7
    clear c7
    obtain rfl := Option.some.inj H
    go_wp2
    go_ret
    exact ⟨by first | rfl | (simp [*] <;> rfl), by repeat (first | (with_reducible first | exact HB.out | apply ba_ | apply bn_ | apply bd_ | refine bs_ ?_ GE401.out) | exact HB.out)⟩
def tblCnt (l : List Int) (i : Nat) : Int := ((l.filter fun n => n == (i : Int)).length : Nat)
def tblArr (l : List Int) : Array Value := ((List.range 13).map fun i => Value.int .i64 (tblCnt l i)).toArray
theorem tblCnt_range (l : List Int) (i : Nat) : 0 ≤ tblCnt l i ∧ tblCnt l i ≤ l.length := by
 unfold tblCnt
 exact ⟨by omega, by have := List.length_filter_le (fun n => n == (i : Int)) l; omega⟩
theorem tblArr_get (l : List Int) (i : Nat) (h : i < 13) : (tblArr l)[i]? = some (.int .i64 (tblCnt l i)) := by
 unfold tblArr
 simp [h]
theorem tblCnt_snoc (l : List Int) (n : Int) (i : Nat) : tblCnt (l ++ [n]) i = if n = (i : Int) then tblCnt l i + 1 else tblCnt l i := by
 unfold tblCnt
 by_cases h : n = (i : Int) <;> simp [List.filter_append, h]
theorem tblArr_snoc (l : List Int) (n : Int) (h0 : 0 ≤ n) (h1 : n < 13) : (tblArr l).setIfInBounds n.toNat (.int .i64 (tblCnt l n.toNat + 1)) = tblArr (l ++ [n]) := by
 apply Array.ext_getElem?
 intro i
 rw [Array.getElem?_setIfInBounds]
 have hs : (tblArr l).size = 13 := by simp [tblArr]
 have hs' : (tblArr (l ++ [n])).size = 13 := by simp [tblArr]
 by_cases hi : i < 13
 ·rw [tblArr_get _ _ hi, tblArr_get _ _ hi, tblCnt_snoc]
  by_cases e : n.toNat = i
  ·subst e
   rw [if_pos rfl, if_pos (by rw [hs]; exact hi), if_pos (by omega)]
  ·rw [if_neg e, if_neg (by omega)]
 ·rw [if_neg (by omega), Array.getElem?_eq_none (by omega), Array.getElem?_eq_none (by omega)]
def tblB (N : Int) (l : List Int) : Bool :=
 decide (1 ≤ l.length ∧ l.length ≤ 32) && (l.all fun n => decide (0 ≤ n ∧ n < N)) && ((List.range N.toNat).all fun i => decide (tblCnt l i ≠ 0))
theorem tblB_no {a0 : Int} {l : List Int} {k : Nat} {x : Int} (h : x < 0 ∨ a0 ≤ x) (hx : l[k]? = some x) : Ending.returned (.bool false) = .returned (.bool (tblB a0 l)) := by
 have : (l.all fun n => decide (0 ≤ n ∧ n < a0)) = false := by
  rw [List.all_eq_false]
  exact ⟨x, List.mem_of_getElem? hx, by simp; omega⟩
 rw [tblB, this]
 simp
theorem tblB_no2 {N : Nat} {l : List Int} {k : Nat} (h : k < N) (hx : tblCnt l k = 0) : Ending.returned (.bool false) = .returned (.bool (tblB N l)) := by
 have : ((List.range (N : Int).toNat).all fun i => decide (tblCnt l i ≠ 0)) = false := by
  rw [List.all_eq_false]
  exact ⟨k, by simpa using h, by simp [hx]⟩
 rw [tblB, this]
 simp
theorem tblB_yes {N : Nat} {l : List Int} (h : 1 ≤ l.length ∧ l.length ≤ 32) (hp : ∀ n ∈ l, 0 ≤ n ∧ n < (N : Int)) (hq : ∀ i, i < N → tblCnt l i ≠ 0) : Ending.returned (.bool true) = .returned (.bool (tblB N l)) := by
 have h1 : (l.all fun n => decide (0 ≤ n ∧ n < (N : Int))) = true := by
  rw [List.all_eq_true]
  exact fun n hn => decide_eq_true (hp n hn)
 have h2 : ((List.range (N : Int).toNat).all fun i => decide (tblCnt l i ≠ 0)) = true := by
  rw [List.all_eq_true]
  intro i hi
  exact decide_eq_true (hq i (by simpa using hi))
 rw [tblB, h1, h2, decide_eq_true h]
 simp
set_option maxHeartbeats 4000000 in
set_option maxRecDepth 100000 in
theorem conf_table.calls_yes (a0 a1 a2 a3 a4 a5 a6 a7 a8 a9 : Int) (A : Option Addr) (c : Nat) (l : List Int) (w : World)  (hr : Kd.C (Kd.int .i64) w A l.length l) (hc : l.length ≤ c) (h0 : 0 ≤ a0) (h1 : a0 ≤ 13) (hl0 : 1 ≤ l.length) (hl1 : l.length ≤ 32) :
  Calls Try.prog 86 #[.agg #[.int .i64 a0, .int .i64 a1, .int .i64 a2, .int .i64 a3, .int .i64 a4, .int .i64 a5, .int .i64 a6, .int .i64 a7, .int .i64 a8, .int .i64 a9, .slice A l.length c]] w fun e w' => e = .returned (.bool (tblB a0 l)) ∧ Below w.heap.size w w' := by
 have hs : conf_span_has.f 1 32 (l.length : Int) = some true := by
  unfold conf_span_has.f
  rw [if_pos (by omega)]
  simp; omega
 have hu24 := Try.underlying24
 have hu87 := Try.underlying87
 have hu97 := Try.underlying97
 have Hs := am_ hs
 have HR := am_ hr
 clear hs hr
 go_enter Try.func86, Try.ntmps86
 go_wp2_with fail
 refine (conf_span_has.calls 1 32 (l.length : Int) true _ Hs.out).mono ?_
 rintro e w1 ⟨rfl, hb⟩
 have hz : w.heap.size + 1 < w1.heap.size := by have := hb.size; simp at this; omega
 have hbN : w1.heap[w.heap.size]? = some (.cells #[.int .i64 a0, .int .i64 a1, .int .i64 a2, .int .i64 a3, .int .i64 a4, .int .i64 a5, .int .i64 a6, .int .i64 a7, .int .i64 a8, .int .i64 a9, .slice A l.length c] 24 (0, 0)) :=
  (hb.block _ (by simp; omega)).trans (blk_alloc (blk_new w _) _)
 have hB1 : Below w.heap.size w w1 := ((below_alloc (below_alloc (Below.refl _ _) _) _)).trans (hb.mono (by simp; omega))
 have hcT : ∀ o, (w1.alloc o).cell? ⟨w.heap.size, 10, none⟩ = some (.slice A l.length c) := fun o => (blk_cell (blk_alloc hbN o) 10).trans rfl
 have HBN := am_ hbN
 have HB1 := am_ hB1
 have Hz := am_ (show w.heap.size < w1.heap.size by omega)
 clear hbN hB1 hb
 go_wp2
 clear hcT hz
 go_loopw [19] (fun i wr => ∃ k : Nat, k ≤ l.length ∧ i = .int .i64 k ∧ Aside0 (∀ n ∈ l.take k, 0 ≤ n ∧ n < a0) ∧ Aside0 (Below w.heap.size w wr) ∧ Aside0 (wr.heap[w.heap.size]? = w1.heap[w.heap.size]?) ∧ Aside0 (wr.heap[w1.heap.size]? = some (.cells (tblArr (l.take k)) 97 (0, 0)))) (fun i _ => l.length - (intOf i).toNat)
 case atStart => exact ⟨0, Nat.zero_le _, rfl, ⟨by simp⟩, ⟨below_alloc HB1.out _⟩, ⟨Below.heap_alloc _ _ _ Hz.out⟩, ⟨by rw [heap_alloc_new]; rfl⟩⟩
 case round =>
  obtain ⟨k, hk, rfl, HP, HB, HN, HT⟩ := hrel
  have HN' := am_ (HN.out.trans HBN.out)
  by_cases hlt : k < l.length
  ·obtain ⟨ad, e, hx⟩ := Kd.at_int HR.out (k : Int) (by omega) (by omega)
   cases e
   have hx' : wr.cell? (ad.add k) = some (.int .i64 (l[k]?.getD 0)) := by
    have := (HB.out.cell (World.block_lt_of_cell? w _ hx)).trans hx
    simpa [rd] using this
   clear hx
   have hxl : l[k]? = some (l[k]?.getD 0) := by rw [List.getElem?_eq_getElem hlt]; rfl
   obtain ⟨x, hxe⟩ : ∃ x, l[k]?.getD 0 = x := ⟨_, rfl⟩
   rw [hxe] at hx' hxl
   clear hxe
   have hcN : wr.cell? ⟨w.heap.size, 0, none⟩ = some (.int .i64 a0) := (blk_cell HN'.out 0).trans rfl
   have Hxl := am_ hxl
   clear hxl
   by_cases c0 : x < 0
   ·have b0 : decide (x < 0) = true := decide_eq_true c0
    go_wp2
    go_ret
    exact ⟨tblB_no (by omega) Hxl.out, HB.out⟩
   ·have b0 : decide (x < 0) = false := decide_eq_false c0
    by_cases c1 : x ≥ a0
    ·have b1 : decide (a0 ≤ x) = true := decide_eq_true c1
     go_wp2
     go_ret
     exact ⟨tblB_no (by omega) Hxl.out, HB.out⟩
    ·have b1 : decide (a0 ≤ x) = false := decide_eq_false c1
     obtain ⟨j, rfl⟩ := Int.eq_ofNat_of_zero_le (show 0 ≤ x by omega)
     have hj : j < 13 := by omega
     have hcj : wr.cell? ⟨w1.heap.size, j, none⟩ = some (.int .i64 (tblCnt (l.take k) j)) := (blk_cell HT.out j).trans (tblArr_get _ _ hj)
     have hfj : wr.frozen? ⟨w1.heap.size, j, none⟩ = false := blk_frozen HT.out j
     have hr0 := (tblCnt_range (l.take k) j).1
     have hr1 : tblCnt (l.take k) j ≤ 32 := by have := (tblCnt_range (l.take k) j).2; have := List.length_take_le k l; omega
     go_wp2
     go_roundw
     case rel =>
      refine ⟨k + 1, by omega, by go_num, ⟨fun n hn => ?_⟩, ⟨HB.out.setCell (p := ⟨w1.heap.size, j, none⟩) (by have := Hz.out; simp; omega) _⟩, ⟨(Below.heap_setCell _ _ _ _ (by have := Hz.out; simp; omega)).trans HN.out⟩, ⟨?_⟩⟩
      ·rw [List.take_add_one, Hxl.out] at hn
       simp at hn
       rcases hn with hn | rfl
       ·exact HP.out n hn
       ·omega
      ·have hb := blk_set HT.out j (.int .i64 (tblCnt (l.take k) j + 1))
       have ht := tblArr_snoc (l.take k) (j : Int) (by omega) (by omega)
       rw [Int.toNat_natCast] at ht
       rw [ht] at hb
       rw [List.take_add_one, Hxl.out]
       exact hb
     case measure => simp [intOf]; omega
  ·obtain rfl : k = l.length := by omega
   have hcN : wr.cell? ⟨w.heap.size, 0, none⟩ = some (.int .i64 a0) := (blk_cell HN'.out 0).trans rfl
   rw [List.take_length] at HP HT
   go_wp2
   clear hcN
   obtain ⟨N, rfl⟩ := Int.eq_ofNat_of_zero_le h0
   go_loop [41] (fun i => ∃ k : Nat, k ≤ N ∧ i = .int .i64 k ∧ Aside0 (∀ i, i < k → tblCnt l i ≠ 0)) (fun i => N - (intOf i).toNat)
   case atStart => exact ⟨0, Nat.zero_le _, rfl, ⟨fun i hi => by omega⟩⟩
   case round =>
    obtain ⟨k, hk, rfl, HQ⟩ := hrel
    by_cases hlt : k < N
    ·have hck : wr.cell? ⟨w1.heap.size, k, none⟩ = some (.int .i64 (tblCnt l k)) := (blk_cell HT.out k).trans (tblArr_get _ _ (by omega))
     by_cases c0 : tblCnt l k = 0
     ·have b0 : (tblCnt l k == 0) = true := beq_iff_eq.mpr c0
      have C0 := am_ c0
      clear c0
      go_wp2
      go_ret
      exact ⟨tblB_no2 hlt C0.out, HB.out⟩
     ·have b0 : (tblCnt l k == 0) = false := beq_eq_false_iff_ne.mpr c0
      have C0 := am_ c0
      clear c0
      go_wp2
      go_round
      case rel => exact ⟨k + 1, by omega, by go_num, ⟨fun i hi => by
       by_cases e : i = k
       ·rw [e]; exact C0.out
       ·exact HQ.out i (by omega)⟩⟩
      case measure => simp [intOf]; omega
    ·obtain rfl : k = N := by omega
     go_wp2
     go_ret
     exact ⟨tblB_yes ⟨hl0, hl1⟩ HP.out HQ.out, HB.out⟩
def conf_table.f (a0_0 a0_1 a0_2 a0_3 a0_4 a0_5 a0_6 a0_7 a0_8 a0_9 : Int) (l0_10 : List Int) : Option Bool := if 0 ≤ a0_0 ∧ a0_0 ≤ 13 then some (tblB a0_0 l0_10) else none
theorem tblB_no0 {a0 : Int} {l : List Int} (h : ¬ (1 ≤ l.length ∧ l.length ≤ 32)) : Ending.returned (.bool false) = .returned (.bool (tblB a0 l)) := by
 rw [tblB, decide_eq_false h]
 simp
set_option maxHeartbeats 4000000 in
set_option maxRecDepth 100000 in
theorem conf_table.calls_no (a0 a1 a2 a3 a4 a5 a6 a7 a8 a9 : Int) (A : Option Addr) (c : Nat) (l : List Int) (w : World) (hl : ¬ (1 ≤ l.length ∧ l.length ≤ 32)) :
  Calls Try.prog 86 #[.agg #[.int .i64 a0, .int .i64 a1, .int .i64 a2, .int .i64 a3, .int .i64 a4, .int .i64 a5, .int .i64 a6, .int .i64 a7, .int .i64 a8, .int .i64 a9, .slice A l.length c]] w fun e w' => e = .returned (.bool (tblB a0 l)) ∧ Below w.heap.size w w' := by
 have hs : conf_span_has.f 1 32 (l.length : Int) = some false := by
  unfold conf_span_has.f
  split
  ·simp; omega
  ·rfl
 have hu24 := Try.underlying24
 have hu87 := Try.underlying87
 have Hs := am_ hs
 have Hl := am_ hl
 clear hs hl
 go_enter Try.func86, Try.ntmps86
 go_wp2_with fail
 refine (conf_span_has.calls 1 32 (l.length : Int) false _ Hs.out).mono ?_
 rintro e w1 ⟨rfl, hb⟩
 have hB1 : Below w.heap.size w w1 := ((below_alloc (below_alloc (Below.refl _ _) _) _)).trans (hb.mono (by simp; omega))
 have HB1 := am_ hB1
 clear hB1 hb
 go_wp2
 go_ret
 exact ⟨tblB_no0 Hl.out, HB1.out⟩
theorem conf_table.calls (a0_0 a0_1 a0_2 a0_3 a0_4 a0_5 a0_6 a0_7 a0_8 a0_9 : Int) (A0_10 : Option Addr) (c0_10 : Nat) (l0_10 : List Int) (r : Bool) (w : World) (hr0_10 : Kd.C (Kd.int .i64) w A0_10 l0_10.length l0_10) (hc0_10 : l0_10.length ≤ c0_10) (h : conf_table.f a0_0 a0_1 a0_2 a0_3 a0_4 a0_5 a0_6 a0_7 a0_8 a0_9 l0_10 = some r) :
  Calls Try.prog 86 #[.agg #[.int .i64 a0_0, .int .i64 a0_1, .int .i64 a0_2, .int .i64 a0_3, .int .i64 a0_4, .int .i64 a0_5, .int .i64 a0_6, .int .i64 a0_7, .int .i64 a0_8, .int .i64 a0_9, .slice A0_10 l0_10.length c0_10]] w fun e w' => e = .returned (.bool r) ∧ Below w.heap.size w w' := by
 unfold conf_table.f at h
 split at h
 ·rename_i hn
  obtain rfl := Option.some.inj h
  by_cases hl : 1 ≤ l0_10.length ∧ l0_10.length ≤ 32
  ·exact conf_table.calls_yes _ _ _ _ _ _ _ _ _ _ _ _ _ w hr0_10 hc0_10 hn.1 hn.2 hl.1 hl.2
  ·exact conf_table.calls_no _ _ _ _ _ _ _ _ _ _ _ _ _ w hl
 ·cases h
def conf_Plain.f (k : Nat) (a0_0 a0_1 a0_2 a0_3 a0_4 a0_5 a0_6 a0_7 a0_8 a0_9 : Int) (l0_10 : List Int) : Option (Int) := (conf_nodes.f a0_0 a0_1 a0_2 a0_3 a0_4 a0_5 a0_6 a0_7 a0_8 a0_9 l0_10).bind fun t403 => (if t403 = true then ((conf_span_has.f 1 4 a0_2).bind fun t404 => (if t404 = true then ((conf_numbers.f k a0_0 a0_1 a0_2 a0_3 a0_4 a0_5 a0_6 a0_7 a0_8 a0_9 l0_10).bind fun t405 => (if t405 = true then ((conf_table.f a0_0 a0_1 a0_2 a0_3 a0_4 a0_5 a0_6 a0_7 a0_8 a0_9 l0_10).bind fun t406 => (if t406 = true then (some 0) else (some 11))) else (some 8))) else (some 10))) else (some 7))
theorem conf_Plain.mono : ∀ a0 a1 a2 a3 a4 a5 a6 a7 a8 a9 a10 k, LeO (conf_Plain.f k a0 a1 a2 a3 a4 a5 a6 a7 a8 a9 a10) (conf_Plain.f (k + 1) a0 a1 a2 a3 a4 a5 a6 a7 a8 a9 a10) := by
 intro a0 a1 a2 a3 a4 a5 a6 a7 a8 a9 a10 k
 unfold conf_Plain.f
 repeat' first
   | (with_reducible exact conf_numbers.mono _ _ _ _ _ _ _ _ _ _ _ _)
   | (with_reducible exact LeO.refl _)
   | (with_reducible exact LeO.none _)
   | (with_reducible refine LeO.ite ?_ ?_)
   | (with_reducible refine LeO.bind ?_ (fun _ => ?_))
   | exact conf_numbers.mono _ _ _ _ _ _ _ _ _ _ _ _
   | exact LeO.none _
   | refine LeO.ite ?_ ?_
   | refine LeO.bind ?_ (fun _ => ?_)
set_option maxHeartbeats 8000000 in
set_option maxRecDepth 100000 in
theorem conf_Plain.calls (k : Nat) (a0_0 a0_1 a0_2 a0_3 a0_4 a0_5 a0_6 a0_7 a0_8 a0_9 : Int) (A0_10 : Option Addr) (c0_10 : Nat) (l0_10 : List Int) (r : Int) (w : World) (hr0_10 : Kd.C (Kd.int .i64) w A0_10 l0_10.length l0_10) (hc0_10 : l0_10.length ≤ c0_10) (h : conf_Plain.f k a0_0 a0_1 a0_2 a0_3 a0_4 a0_5 a0_6 a0_7 a0_8 a0_9 l0_10 = some r) :
  Calls Try.prog 54 #[.agg #[.int .i64 a0_0, .int .i64 a0_1, .int .i64 a0_2, .int .i64 a0_3, .int .i64 a0_4, .int .i64 a0_5, .int .i64 a0_6, .int .i64 a0_7, .int .i64 a0_8, .int .i64 a0_9, .slice A0_10 l0_10.length c0_10]] w fun e w' => e = .returned (.int .i64 r) ∧ Below w.heap.size w w' := by
 have hu24 := Try.underlying24
 have hu87 := Try.underlying87
 have HR0_10 := am_ hr0_10
 have HC0_10 := am_ hc0_10
 clear hr0_10 hc0_10
 have HB := am_ (Below.refl w.heap.size w)
 have H := h
 unfold conf_Plain.f at H
 clear h
 obtain ⟨t403, A2, H⟩ := bes_ H
 try dsimp only at H
 by_cases c3 : t403 = true
 ·subst c3
  rw [if_pos rfl] at H
  obtain ⟨t404, A4, H⟩ := bes_ H
  try dsimp only at H
  by_cases c5 : t404 = true
  ·subst c5
   rw [if_pos rfl] at H
   obtain ⟨t405, A6, H⟩ := bes_ H
   try dsimp only at H
   by_cases c7 : t405 = true
   ·subst c7
    rw [if_pos rfl] at H
    obtain ⟨t406, A8, H⟩ := bes_ H
    try dsimp only at H
    by_cases c9 : t406 = true
    subst c9
    rw [if_pos rfl] at H
    obtain rfl := Option.some.inj H
    rotate_left
    replace c9 := Bool.eq_false_iff.mpr c9
    subst c9
    rw [if_neg (show ¬ (false = true) by decide)] at H
    obtain rfl := Option.some.inj H
    rotate_left
    all_goals
     go_enter Try.func54, Try.ntmps54
     go_wp2_with (first | ((with_reducible refine gate_dst (N := 1) rfl ?_); refine bxe_ 1 24 #[.int .i64 a0_0, .int .i64 a0_1, .int .i64 a0_2, .int .i64 a0_3, .int .i64 a0_4, .int .i64 a0_5, .int .i64 a0_6, .int .i64 a0_7, .int .i64 a0_8, .int .i64 a0_9, .slice A0_10 l0_10.length c0_10] ?_; intro gb401 hg w10 hbox hb; have BK401 := am_ (hbox); have GW401 := gwk_ HB hg; have GE401 := GW401; replace HB := bst_ HB hb; clear hb hbox hg) | ((with_reducible refine gate_dst (N := 3) rfl ?_); refine bxe_ 3 87 #[.int .i64 0, .int .i64 0] ?_; intro gb402 hg w11 hbox hb; have BK402 := am_ (hbox); have GW402 := gwk_ HB hg; have GE402 := GW402; replace HB := bst_ HB hb; have NB401_402 := nbk_ BK401 hg; have NB402_401 := nbs_ NB401_402; replace BK401 := bkb_ BK401 hb; clear hb hbox hg; have hnb12 := NB402_401.out; have hnc12 := NB401_402.out; obtain ⟨hcz13_0, hcz13_1⟩ := cells_2 BK402.out; obtain ⟨hfz13_0, hfz13_1⟩ := frozen_2 BK402.out; have hcz14 := cells_11 BK401.out; have hfz14 := frozen_11 BK401.out) | ((with_reducible refine gate_callee (f := 83) rfl ?_); refine gom_ (some 7) Try.func83 (conf_nodes.calls a0_0 a0_1 a0_2 a0_3 a0_4 a0_5 a0_6 a0_7 a0_8 a0_9 _ _ l0_10 _ _ ?side1 HC0_10.out A2.out) ?_; (case side1 => exact Kd.C_below HR0_10.out (by repeat (first | (with_reducible first | exact HB.out | apply ba_ | apply bn_ | apply bd_ | refine bs_ ?_ GE401.out | refine bs_ ?_ GE402.out) | exact HB.out))); rintro e w15 ⟨rfl, hb⟩; refine ⟨_, rfl, ?_⟩; replace BK401 := am_ (blk_below (g := gb401) (o := .cells #[.int .i64 a0_0, .int .i64 a0_1, .int .i64 a0_2, .int .i64 a0_3, .int .i64 a0_4, .int .i64 a0_5, .int .i64 a0_6, .int .i64 a0_7, .int .i64 a0_8, .int .i64 a0_9, .slice A0_10 l0_10.length c0_10] 24 (0, 0)) (by (iterate 2 ((with_reducible repeat (first | apply kn_ | apply kd_ | apply ka_)); refine blk_far ?_ NB401_402.out _)); (with_reducible repeat (first | apply kn_ | apply kd_ | apply ka_)); exact BK401.out) hb); replace BK402 := am_ (blk_below (g := gb402) (o := .cells #[.int .i64 1, .int .i64 4] 87 (0, 0)) (by (with_reducible repeat (first | apply kn_ | apply kd_ | apply ka_)); refine blk_put (cs := #[.int .i64 1, .int .i64 0]) ?_ 1 _ rfl; (with_reducible repeat (first | apply kn_ | apply kd_ | apply ka_)); refine blk_put (cs := #[.int .i64 0, .int .i64 0]) ?_ 0 _ rfl; (with_reducible repeat (first | apply kn_ | apply kd_ | apply ka_)); exact BK402.out) hb); replace HB := am_ (below_step (by repeat (first | (with_reducible first | exact HB.out | apply ba_ | apply bn_ | apply bd_ | refine bs_ ?_ GE401.out | refine bs_ ?_ GE402.out) | exact HB.out)) hb); (try clear hb); obtain ⟨hcz16_0, hcz16_1⟩ := cells_2 BK402.out; obtain ⟨hfz16_0, hfz16_1⟩ := frozen_2 BK402.out; have hcz17 := cells_11 BK401.out; have hfz17 := frozen_11 BK401.out) | ((with_reducible refine gate_callee (f := 84) rfl ?_); refine gom_ (some 13) Try.func84 (conf_span_has.calls 1 4 a0_2 _ _ A4.out) ?_; rintro e w18 ⟨rfl, hb⟩; refine ⟨_, rfl, ?_⟩; replace BK401 := bkb_ BK401 hb; replace BK402 := bkb_ BK402 hb; replace HB := bst_ HB hb; (try clear hb); have hcz19 := cells_11 BK401.out; have hfz19 := frozen_11 BK401.out) | ((with_reducible refine gate_callee (f := 85) rfl ?_); refine gom_ (some 17) Try.func85 (conf_numbers.calls k a0_0 a0_1 a0_2 a0_3 a0_4 a0_5 a0_6 a0_7 a0_8 a0_9 _ _ l0_10 _ _ (Kd.C_below HR0_10.out HB.out) HC0_10.out A6.out) ?_; rintro e w20 ⟨rfl, hb⟩; refine ⟨_, rfl, ?_⟩; replace BK401 := bkb_ BK401 hb; replace BK402 := bkb_ BK402 hb; replace HB := bst_ HB hb; (try clear hb); have hcz21 := cells_11 BK401.out; have hfz21 := frozen_11 BK401.out) | ((with_reducible refine gate_callee (f := 86) rfl ?_); refine gom_ (some 21) Try.func86 (conf_table.calls a0_0 a0_1 a0_2 a0_3 a0_4 a0_5 a0_6 a0_7 a0_8 a0_9 _ _ l0_10 _ _ (Kd.C_below HR0_10.out HB.out) HC0_10.out A8.out) ?_; rintro e w22 ⟨rfl, hb⟩; refine ⟨_, rfl, ?_⟩; replace BK401 := bkb_ BK401 hb; replace BK402 := bkb_ BK402 hb; replace HB := bst_ HB hb; (try clear hb)))
     go_ret
     exact ⟨by first | rfl | (simp [*] <;> rfl), by repeat (first | (with_reducible first | exact HB.out | apply ba_ | apply bn_ | apply bd_ | refine bs_ ?_ GE401.out | refine bs_ ?_ GE402.out) | exact HB.out)⟩
   ·replace c7 := Bool.eq_false_iff.mpr c7
    subst c7
    rw [if_neg (show ¬ (false = true) by decide)] at H
    obtain rfl := Option.some.inj H
    go_enter Try.func54, Try.ntmps54
    go_wp2_with (first | ((with_reducible refine gate_dst (N := 1) rfl ?_); refine bxe_ 1 24 #[.int .i64 a0_0, .int .i64 a0_1, .int .i64 a0_2, .int .i64 a0_3, .int .i64 a0_4, .int .i64 a0_5, .int .i64 a0_6, .int .i64 a0_7, .int .i64 a0_8, .int .i64 a0_9, .slice A0_10 l0_10.length c0_10] ?_; intro gb401 hg w36 hbox hb; have BK401 := am_ (hbox); have GW401 := gwk_ HB hg; have GE401 := GW401; replace HB := bst_ HB hb; clear hb hbox hg) | ((with_reducible refine gate_dst (N := 3) rfl ?_); refine bxe_ 3 87 #[.int .i64 0, .int .i64 0] ?_; intro gb402 hg w37 hbox hb; have BK402 := am_ (hbox); have GW402 := gwk_ HB hg; have GE402 := GW402; replace HB := bst_ HB hb; have NB401_402 := nbk_ BK401 hg; have NB402_401 := nbs_ NB401_402; replace BK401 := bkb_ BK401 hb; clear hb hbox hg; have hnb38 := NB402_401.out; have hnc38 := NB401_402.out; obtain ⟨hcz39_0, hcz39_1⟩ := cells_2 BK402.out; obtain ⟨hfz39_0, hfz39_1⟩ := frozen_2 BK402.out; have hcz40 := cells_11 BK401.out; have hfz40 := frozen_11 BK401.out) | ((with_reducible refine gate_callee (f := 83) rfl ?_); refine gom_ (some 7) Try.func83 (conf_nodes.calls a0_0 a0_1 a0_2 a0_3 a0_4 a0_5 a0_6 a0_7 a0_8 a0_9 _ _ l0_10 _ _ ?side1 HC0_10.out A2.out) ?_; (case side1 => exact Kd.C_below HR0_10.out (by repeat (first | (with_reducible first | exact HB.out | apply ba_ | apply bn_ | apply bd_ | refine bs_ ?_ GE401.out | refine bs_ ?_ GE402.out) | exact HB.out))); rintro e w41 ⟨rfl, hb⟩; refine ⟨_, rfl, ?_⟩; replace BK401 := am_ (blk_below (g := gb401) (o := .cells #[.int .i64 a0_0, .int .i64 a0_1, .int .i64 a0_2, .int .i64 a0_3, .int .i64 a0_4, .int .i64 a0_5, .int .i64 a0_6, .int .i64 a0_7, .int .i64 a0_8, .int .i64 a0_9, .slice A0_10 l0_10.length c0_10] 24 (0, 0)) (by (iterate 2 ((with_reducible repeat (first | apply kn_ | apply kd_ | apply ka_)); refine blk_far ?_ NB401_402.out _)); (with_reducible repeat (first | apply kn_ | apply kd_ | apply ka_)); exact BK401.out) hb); replace BK402 := am_ (blk_below (g := gb402) (o := .cells #[.int .i64 1, .int .i64 4] 87 (0, 0)) (by (with_reducible repeat (first | apply kn_ | apply kd_ | apply ka_)); refine blk_put (cs := #[.int .i64 1, .int .i64 0]) ?_ 1 _ rfl; (with_reducible repeat (first | apply kn_ | apply kd_ | apply ka_)); refine blk_put (cs := #[.int .i64 0, .int .i64 0]) ?_ 0 _ rfl; (with_reducible repeat (first | apply kn_ | apply kd_ | apply ka_)); exact BK402.out) hb); replace HB := am_ (below_step (by repeat (first | (with_reducible first | exact HB.out | apply ba_ | apply bn_ | apply bd_ | refine bs_ ?_ GE401.out | refine bs_ ?_ GE402.out) | exact HB.out)) hb); (try clear hb); obtain ⟨hcz42_0, hcz42_1⟩ := cells_2 BK402.out; obtain ⟨hfz42_0, hfz42_1⟩ := frozen_2 BK402.out; have hcz43 := cells_11 BK401.out; have hfz43 := frozen_11 BK401.out) | ((with_reducible refine gate_callee (f := 84) rfl ?_); refine gom_ (some 13) Try.func84 (conf_span_has.calls 1 4 a0_2 _ _ A4.out) ?_; rintro e w44 ⟨rfl, hb⟩; refine ⟨_, rfl, ?_⟩; replace BK401 := bkb_ BK401 hb; replace BK402 := bkb_ BK402 hb; replace HB := bst_ HB hb; (try clear hb); have hcz45 := cells_11 BK401.out; have hfz45 := frozen_11 BK401.out) | ((with_reducible refine gate_callee (f := 85) rfl ?_); refine gom_ (some 17) Try.func85 (conf_numbers.calls k a0_0 a0_1 a0_2 a0_3 a0_4 a0_5 a0_6 a0_7 a0_8 a0_9 _ _ l0_10 _ _ (Kd.C_below HR0_10.out HB.out) HC0_10.out A6.out) ?_; rintro e w46 ⟨rfl, hb⟩; refine ⟨_, rfl, ?_⟩; replace BK401 := bkb_ BK401 hb; replace BK402 := bkb_ BK402 hb; replace HB := bst_ HB hb; (try clear hb)))
    go_ret
    exact ⟨by first | rfl | (simp [*] <;> rfl), by repeat (first | (with_reducible first | exact HB.out | apply ba_ | apply bn_ | apply bd_ | refine bs_ ?_ GE401.out | refine bs_ ?_ GE402.out) | exact HB.out)⟩
  ·replace c5 := Bool.eq_false_iff.mpr c5
   subst c5
   rw [if_neg (show ¬ (false = true) by decide)] at H
   obtain rfl := Option.some.inj H
   go_enter Try.func54, Try.ntmps54
   go_wp2_with (first | ((with_reducible refine gate_dst (N := 1) rfl ?_); refine bxe_ 1 24 #[.int .i64 a0_0, .int .i64 a0_1, .int .i64 a0_2, .int .i64 a0_3, .int .i64 a0_4, .int .i64 a0_5, .int .i64 a0_6, .int .i64 a0_7, .int .i64 a0_8, .int .i64 a0_9, .slice A0_10 l0_10.length c0_10] ?_; intro gb401 hg w47 hbox hb; have BK401 := am_ (hbox); have GW401 := gwk_ HB hg; have GE401 := GW401; replace HB := bst_ HB hb; clear hb hbox hg) | ((with_reducible refine gate_dst (N := 3) rfl ?_); refine bxe_ 3 87 #[.int .i64 0, .int .i64 0] ?_; intro gb402 hg w48 hbox hb; have BK402 := am_ (hbox); have GW402 := gwk_ HB hg; have GE402 := GW402; replace HB := bst_ HB hb; have NB401_402 := nbk_ BK401 hg; have NB402_401 := nbs_ NB401_402; replace BK401 := bkb_ BK401 hb; clear hb hbox hg; have hnb49 := NB402_401.out; have hnc49 := NB401_402.out; obtain ⟨hcz50_0, hcz50_1⟩ := cells_2 BK402.out; obtain ⟨hfz50_0, hfz50_1⟩ := frozen_2 BK402.out; have hcz51 := cells_11 BK401.out; have hfz51 := frozen_11 BK401.out) | ((with_reducible refine gate_callee (f := 83) rfl ?_); refine gom_ (some 7) Try.func83 (conf_nodes.calls a0_0 a0_1 a0_2 a0_3 a0_4 a0_5 a0_6 a0_7 a0_8 a0_9 _ _ l0_10 _ _ ?side1 HC0_10.out A2.out) ?_; (case side1 => exact Kd.C_below HR0_10.out (by repeat (first | (with_reducible first | exact HB.out | apply ba_ | apply bn_ | apply bd_ | refine bs_ ?_ GE401.out | refine bs_ ?_ GE402.out) | exact HB.out))); rintro e w52 ⟨rfl, hb⟩; refine ⟨_, rfl, ?_⟩; replace BK401 := am_ (blk_below (g := gb401) (o := .cells #[.int .i64 a0_0, .int .i64 a0_1, .int .i64 a0_2, .int .i64 a0_3, .int .i64 a0_4, .int .i64 a0_5, .int .i64 a0_6, .int .i64 a0_7, .int .i64 a0_8, .int .i64 a0_9, .slice A0_10 l0_10.length c0_10] 24 (0, 0)) (by (iterate 2 ((with_reducible repeat (first | apply kn_ | apply kd_ | apply ka_)); refine blk_far ?_ NB401_402.out _)); (with_reducible repeat (first | apply kn_ | apply kd_ | apply ka_)); exact BK401.out) hb); replace BK402 := am_ (blk_below (g := gb402) (o := .cells #[.int .i64 1, .int .i64 4] 87 (0, 0)) (by (with_reducible repeat (first | apply kn_ | apply kd_ | apply ka_)); refine blk_put (cs := #[.int .i64 1, .int .i64 0]) ?_ 1 _ rfl; (with_reducible repeat (first | apply kn_ | apply kd_ | apply ka_)); refine blk_put (cs := #[.int .i64 0, .int .i64 0]) ?_ 0 _ rfl; (with_reducible repeat (first | apply kn_ | apply kd_ | apply ka_)); exact BK402.out) hb); replace HB := am_ (below_step (by repeat (first | (with_reducible first | exact HB.out | apply ba_ | apply bn_ | apply bd_ | refine bs_ ?_ GE401.out | refine bs_ ?_ GE402.out) | exact HB.out)) hb); (try clear hb); obtain ⟨hcz53_0, hcz53_1⟩ := cells_2 BK402.out; obtain ⟨hfz53_0, hfz53_1⟩ := frozen_2 BK402.out; have hcz54 := cells_11 BK401.out; have hfz54 := frozen_11 BK401.out) | ((with_reducible refine gate_callee (f := 84) rfl ?_); refine gom_ (some 13) Try.func84 (conf_span_has.calls 1 4 a0_2 _ _ A4.out) ?_; rintro e w55 ⟨rfl, hb⟩; refine ⟨_, rfl, ?_⟩; replace BK401 := bkb_ BK401 hb; replace BK402 := bkb_ BK402 hb; replace HB := bst_ HB hb; (try clear hb)))
   go_ret
   exact ⟨by first | rfl | (simp [*] <;> rfl), by repeat (first | (with_reducible first | exact HB.out | apply ba_ | apply bn_ | apply bd_ | refine bs_ ?_ GE401.out | refine bs_ ?_ GE402.out) | exact HB.out)⟩
 ·replace c3 := Bool.eq_false_iff.mpr c3
  subst c3
  rw [if_neg (show ¬ (false = true) by decide)] at H
  obtain rfl := Option.some.inj H
  go_enter Try.func54, Try.ntmps54
  go_wp2_with (first | ((with_reducible refine gate_dst (N := 1) rfl ?_); refine bxe_ 1 24 #[.int .i64 a0_0, .int .i64 a0_1, .int .i64 a0_2, .int .i64 a0_3, .int .i64 a0_4, .int .i64 a0_5, .int .i64 a0_6, .int .i64 a0_7, .int .i64 a0_8, .int .i64 a0_9, .slice A0_10 l0_10.length c0_10] ?_; intro gb401 hg w56 hbox hb; have BK401 := am_ (hbox); have GW401 := gwk_ HB hg; have GE401 := GW401; replace HB := bst_ HB hb; clear hb hbox hg) | ((with_reducible refine gate_dst (N := 3) rfl ?_); refine bxe_ 3 87 #[.int .i64 0, .int .i64 0] ?_; intro gb402 hg w57 hbox hb; have BK402 := am_ (hbox); have GW402 := gwk_ HB hg; have GE402 := GW402; replace HB := bst_ HB hb; have NB401_402 := nbk_ BK401 hg; have NB402_401 := nbs_ NB401_402; replace BK401 := bkb_ BK401 hb; clear hb hbox hg; have hnb58 := NB402_401.out; have hnc58 := NB401_402.out; obtain ⟨hcz59_0, hcz59_1⟩ := cells_2 BK402.out; obtain ⟨hfz59_0, hfz59_1⟩ := frozen_2 BK402.out; have hcz60 := cells_11 BK401.out; have hfz60 := frozen_11 BK401.out) | ((with_reducible refine gate_callee (f := 83) rfl ?_); refine gom_ (some 7) Try.func83 (conf_nodes.calls a0_0 a0_1 a0_2 a0_3 a0_4 a0_5 a0_6 a0_7 a0_8 a0_9 _ _ l0_10 _ _ ?side1 HC0_10.out A2.out) ?_; (case side1 => exact Kd.C_below HR0_10.out (by repeat (first | (with_reducible first | exact HB.out | apply ba_ | apply bn_ | apply bd_ | refine bs_ ?_ GE401.out | refine bs_ ?_ GE402.out) | exact HB.out))); rintro e w61 ⟨rfl, hb⟩; refine ⟨_, rfl, ?_⟩; replace BK401 := am_ (blk_below (g := gb401) (o := .cells #[.int .i64 a0_0, .int .i64 a0_1, .int .i64 a0_2, .int .i64 a0_3, .int .i64 a0_4, .int .i64 a0_5, .int .i64 a0_6, .int .i64 a0_7, .int .i64 a0_8, .int .i64 a0_9, .slice A0_10 l0_10.length c0_10] 24 (0, 0)) (by (iterate 2 ((with_reducible repeat (first | apply kn_ | apply kd_ | apply ka_)); refine blk_far ?_ NB401_402.out _)); (with_reducible repeat (first | apply kn_ | apply kd_ | apply ka_)); exact BK401.out) hb); replace BK402 := am_ (blk_below (g := gb402) (o := .cells #[.int .i64 1, .int .i64 4] 87 (0, 0)) (by (with_reducible repeat (first | apply kn_ | apply kd_ | apply ka_)); refine blk_put (cs := #[.int .i64 1, .int .i64 0]) ?_ 1 _ rfl; (with_reducible repeat (first | apply kn_ | apply kd_ | apply ka_)); refine blk_put (cs := #[.int .i64 0, .int .i64 0]) ?_ 0 _ rfl; (with_reducible repeat (first | apply kn_ | apply kd_ | apply ka_)); exact BK402.out) hb); replace HB := am_ (below_step (by repeat (first | (with_reducible first | exact HB.out | apply ba_ | apply bn_ | apply bd_ | refine bs_ ?_ GE401.out | refine bs_ ?_ GE402.out) | exact HB.out)) hb); (try clear hb)))
  go_ret
  exact ⟨by first | rfl | (simp [*] <;> rfl), by repeat (first | (with_reducible first | exact HB.out | apply ba_ | apply bn_ | apply bd_ | refine bs_ ?_ GE401.out | refine bs_ ?_ GE402.out) | exact HB.out)⟩
end Go.Proofs.Ythdoghhmooodjaa.Gn
