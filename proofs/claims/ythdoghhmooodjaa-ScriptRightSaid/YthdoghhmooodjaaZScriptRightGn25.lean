import Derived.Test.YthdoghhmooodjaaZScriptRightGn0
import Derived.Test.YthdoghhmooodjaaZScriptRightGn1
import Derived.Test.YthdoghhmooodjaaZScriptRightGn23
namespace Go.Proofs.Ythdoghhmooodjaa.Gn
open Go.RowKit Go.Proofs.YthdoghhmooodjaaW.PrintWords Go.Proofs.YthdoghhmooodjaaW.PrintLast Go.Proofs.YthdoghhmooodjaaW.PrintMore
attribute [local go_sem] max2_int min2_int max_two min_two max_three min_three max_four min_four   -- for this text's walks alone
set_option linter.unusedVariables false
set_option linter.unusedSimpArgs false
mutual
def r03_Plain.j0 : Nat → Bool → Int → Int → Int → Int → Int → Int → Int → Int → Int → Int → List Int → Option (Int)
 | 0, _, _, _, _, _, _, _, _, _, _, _, _ => none
 | k + 1, x20, x402000, x402001, x402002, x402003, x402004, x402005, x402006, x402007, x402008, x402009, x402010 => if x20 = true then (some 7) else ((r03_within.f x402002 1 4).bind fun t404 => (if t404 = true then ((r03_within.f x402003 (wrap64 ((wrap64 ((wrap64 (6 * (wrap64 (x402001 + 1)))) * x402002)) + 1)) 400).bind fun t405 => (if t405 = true then ((r03_within.f x402004 1 64).bind fun t406 => (if t406 = true then ((r03_within.f x402005 0 (wrap64 (x402004 - 1))).bind fun t407 => (if t407 = true then ((r03_within.f x402006 0 30000).bind fun t408 => (if t408 = true then ((r03_within.f x402007 1 30000).bind fun t409 => (if t409 = true then ((r03_within.f x402008 2 250).bind fun t410 => (if t410 = true then ((r03_within.f x402009 1 100).bind fun t411 => (r03_Plain.j1 k (!t411) x402000 x402001 x402002 x402003 x402004 x402005 x402006 x402007 x402008 x402009 x402010)) else (r03_Plain.j1 k true x402000 x402001 x402002 x402003 x402004 x402005 x402006 x402007 x402008 x402009 x402010))) else (r03_Plain.j1 k true x402000 x402001 x402002 x402003 x402004 x402005 x402006 x402007 x402008 x402009 x402010))) else (r03_Plain.j1 k true x402000 x402001 x402002 x402003 x402004 x402005 x402006 x402007 x402008 x402009 x402010))) else (r03_Plain.j1 k true x402000 x402001 x402002 x402003 x402004 x402005 x402006 x402007 x402008 x402009 x402010))) else (r03_Plain.j1 k true x402000 x402001 x402002 x402003 x402004 x402005 x402006 x402007 x402008 x402009 x402010))) else (r03_Plain.j1 k true x402000 x402001 x402002 x402003 x402004 x402005 x402006 x402007 x402008 x402009 x402010))) else (some 10)))
def r03_Plain.j1 : Nat → Bool → Int → Int → Int → Int → Int → Int → Int → Int → Int → Int → List Int → Option (Int)
 | 0, _, _, _, _, _, _, _, _, _, _, _, _ => none
 | k + 1, x75, x402000, x402001, x402002, x402003, x402004, x402005, x402006, x402007, x402008, x402009, x402010 => if x75 = true then (some 8) else ((r03_within.f (x402010.length : Int) 1 32).bind fun t412 => (if t412 = true then ((r03_owned.f k x402000 x402001 x402002 x402003 x402004 x402005 x402006 x402007 x402008 x402009 x402010).bind fun t413 => (if t413 = true then (some 0) else (some 11))) else (some 11)))
end
def r03_Plain.f (k : Nat) (a0_0 a0_1 a0_2 a0_3 a0_4 a0_5 a0_6 a0_7 a0_8 a0_9 : Int) (l0_10 : List Int) : Option (Int) := (r03_within.f a0_0 4 13).bind fun t402 => (if t402 = true then ((r03_within.f a0_1 0 4).bind fun t403 => (if t403 = true then (r03_Plain.j0 k (decide (a0_0 ≤ (wrap64 (3 * a0_1)))) a0_0 a0_1 a0_2 a0_3 a0_4 a0_5 a0_6 a0_7 a0_8 a0_9 l0_10) else (r03_Plain.j0 k true a0_0 a0_1 a0_2 a0_3 a0_4 a0_5 a0_6 a0_7 a0_8 a0_9 l0_10))) else (r03_Plain.j0 k true a0_0 a0_1 a0_2 a0_3 a0_4 a0_5 a0_6 a0_7 a0_8 a0_9 l0_10))
set_option maxHeartbeats 8000000 in
set_option maxRecDepth 100000 in
theorem r03_Plain.calls (k : Nat) (a0_0 a0_1 a0_2 a0_3 a0_4 a0_5 a0_6 a0_7 a0_8 a0_9 : Int) (A0_10 : Option Addr) (c0_10 : Nat) (l0_10 : List Int) (r : Int) (w : World) (hr0_10 : Kd.C (Kd.int .i64) w A0_10 l0_10.length l0_10) (hc0_10 : l0_10.length ≤ c0_10) (h : r03_Plain.f k a0_0 a0_1 a0_2 a0_3 a0_4 a0_5 a0_6 a0_7 a0_8 a0_9 l0_10 = some r) :
  Calls Try.prog 56 #[.agg #[.int .i64 a0_0, .int .i64 a0_1, .int .i64 a0_2, .int .i64 a0_3, .int .i64 a0_4, .int .i64 a0_5, .int .i64 a0_6, .int .i64 a0_7, .int .i64 a0_8, .int .i64 a0_9, .slice A0_10 l0_10.length c0_10]] w fun e w' => e = .returned (.int .i64 r) ∧ Below w.heap.size w w' := by
 have hu24 := Try.underlying24
 have HR0_10 := am_ hr0_10
 have HC0_10 := am_ hc0_10
 clear hr0_10 hc0_10
 have HB := am_ (Below.refl w.heap.size w)
 have H := h
 unfold r03_Plain.f at H
 clear h
 have HC2 := am_ H
 clear H
 go_enter Try.func56, Try.ntmps56
 go_upto_region 1 with (first | ((with_reducible refine gate_dst (N := 1) rfl ?_); refine bxe_ 1 24 #[.int .i64 a0_0, .int .i64 a0_1, .int .i64 a0_2, .int .i64 a0_3, .int .i64 a0_4, .int .i64 a0_5, .int .i64 a0_6, .int .i64 a0_7, .int .i64 a0_8, .int .i64 a0_9, .slice A0_10 l0_10.length c0_10] ?_; intro gb401 hg w3 hbox hb; have q0_ := below_of hb (by repeat (first | (with_reducible first | exact HB.out | apply ba_ | apply bn_ | apply bd_) | exact HB.out)); have BK401 := am_ (hbox); have GW401 := am_ ((by rw [hg]; exact (below_size q0_) : w.heap.size ≤ gb401)); have GE401 := GW401; replace HB := am_ (below_step q0_ hb); clear q0_; clear hb hbox hg))
 (try simp only [Act.put, zs_])
 go_cut [20] (fun v20 wc => ∃ (kq : Nat) (x20_1 : Bool), v20 = .bool x20_1 ∧ Aside0 (r03_Plain.j0 kq x20_1 a0_0 a0_1 a0_2 a0_3 a0_4 a0_5 a0_6 a0_7 a0_8 a0_9 l0_10 = some r) ∧ Aside0 (kq ≤ k) ∧ Aside0 (wc.heap[gb401]? = some (.cells #[.int .i64 a0_0, .int .i64 a0_1, .int .i64 a0_2, .int .i64 a0_3, .int .i64 a0_4, .int .i64 a0_5, .int .i64 a0_6, .int .i64 a0_7, .int .i64 a0_8, .int .i64 a0_9, (.slice A0_10 l0_10.length c0_10)] 24 (0, 0))) ∧ Aside0 (Below w.heap.size w wc))
 case first =>
  have H := HC2.out
  clear HC2
  obtain ⟨t402, A4, H⟩ := bes_ H
  try dsimp only at H
  by_cases c5 : t402 = true
  subst c5
  rw [if_pos rfl] at H
  obtain ⟨t403, A6, H⟩ := bes_ H
  try dsimp only at H
  by_cases c7 : t403 = true
  subst c7
  rw [if_pos rfl] at H
  rotate_left
  replace c7 := Bool.eq_false_iff.mpr c7
  subst c7
  rw [if_neg (show ¬ (false = true) by decide)] at H
  rotate_left
  replace c5 := Bool.eq_false_iff.mpr c5
  subst c5
  rw [if_neg (show ¬ (false = true) by decide)] at H
  rotate_left
  all_goals
   have H' := am_ H
   clear H
   have hcz8 := cells_11 BK401.out
   have hfz8 := frozen_11 BK401.out
   go_wp2_with (first | ((with_reducible refine gate_callee (f := 90) rfl ?_); refine gom_ (some 5) Try.func90 (r03_within.calls a0_0 4 13 _ _ A4.out) ?_; rintro e w' ⟨rfl, ⟨nd, rfl⟩⟩; refine ⟨_, rfl, ?_⟩) | (go_at_call 90; (with_reducible refine (r03_within.calls a0_1 0 4 _ _ A6.out).mono ?_); rintro e w' ⟨rfl, ⟨nd, rfl⟩⟩))
   go_meet
  ·case rel => exact ⟨_, (decide (a0_0 ≤ (wrap64 (3 * a0_1)))), (by first | rfl | (simp; done) | (simp [*]; done)), H', ⟨by first | omega | exact Nat.le_refl _⟩, ⟨by (with_reducible repeat (first | apply kn_ | apply kd_ | apply ka_)); exact BK401.out⟩, ⟨by repeat (first | (with_reducible first | exact HB.out | apply ba_ | apply bn_ | apply bd_ | refine bs_ ?_ GE401.out) | exact HB.out)⟩⟩
  all_goals
   case rel => exact ⟨_, (true), (by first | rfl | (simp; done) | (simp [*]; done)), H', ⟨by first | omega | exact Nat.le_refl _⟩, ⟨by (with_reducible repeat (first | apply kn_ | apply kd_ | apply ka_)); exact BK401.out⟩, ⟨by repeat (first | (with_reducible first | exact HB.out | apply ba_ | apply bn_ | apply bd_ | refine bs_ ?_ GE401.out) | exact HB.out)⟩⟩
 case rest =>
  clear HC2
  try clear p2
  try clear c5
  try clear p6
  try clear c7
  try clear c9
  try clear hcz10
  try clear hcz8
  try clear hcz9
  try clear hfz10
  try clear hfz8
  try clear hfz9
  obtain ⟨kq, x20_1, rfl, HA, HJ1, BK401, HB⟩ := hcut
  cases kq with
  | zero => exact absurd HA.out (by simp [r03_Plain.j0])
  | succ kj1 =>
   have H := HA.out
   clear HA
   simp only [r03_Plain.j0] at H
   by_cases c11 : x20_1 = true
   ·subst c11
    rw [if_pos rfl] at H
    obtain rfl := Option.some.inj H
    go_wp2
    go_ret
    exact ⟨by first | rfl | (simp [*] <;> rfl), by repeat (first | (with_reducible first | exact HB.out | apply ba_ | apply bn_ | apply bd_ | refine bs_ ?_ GE401.out) | exact HB.out)⟩
   ·replace c11 := Bool.eq_false_iff.mpr c11
    subst c11
    rw [if_neg (show ¬ (false = true) by decide)] at H
    obtain ⟨t404, A12, H⟩ := bes_ H
    try dsimp only at H
    by_cases c13 : t404 = true
    ·subst c13
     rw [if_pos rfl] at H
     have HC14 := am_ H
     clear H
     have hcz15 := cells_11 BK401.out
     have hfz15 := frozen_11 BK401.out
     go_upto_region 5 with (first | ((with_reducible refine gate_callee (f := 90) rfl ?_); refine gom_ (some 23) Try.func90 (r03_within.calls a0_2 1 4 _ _ A12.out) ?_; rintro e w' ⟨rfl, ⟨nd, rfl⟩⟩; refine ⟨_, rfl, ?_⟩))
     (try simp only [Act.put, zs_])
     go_cut [75] (fun v75 wc => ∃ (kq : Nat) (x75_13 : Bool), v75 = .bool x75_13 ∧ Aside0 (r03_Plain.j1 kq x75_13 a0_0 a0_1 a0_2 a0_3 a0_4 a0_5 a0_6 a0_7 a0_8 a0_9 l0_10 = some r) ∧ Aside0 (kq ≤ kj1) ∧ Aside0 (wc.heap[gb401]? = some (.cells #[.int .i64 a0_0, .int .i64 a0_1, .int .i64 a0_2, .int .i64 a0_3, .int .i64 a0_4, .int .i64 a0_5, .int .i64 a0_6, .int .i64 a0_7, .int .i64 a0_8, .int .i64 a0_9, (.slice A0_10 l0_10.length c0_10)] 24 (0, 0))) ∧ Aside0 (Below w.heap.size w wc))
     case first =>
      have H := HC14.out
      clear HC14
      obtain ⟨t405, A16, H⟩ := bes_ H
      try dsimp only at H
      by_cases c17 : t405 = true
      subst c17
      rw [if_pos rfl] at H
      obtain ⟨t406, A18, H⟩ := bes_ H
      try dsimp only at H
      by_cases c19 : t406 = true
      subst c19
      rw [if_pos rfl] at H
      obtain ⟨t407, A20, H⟩ := bes_ H
      try dsimp only at H
      by_cases c21 : t407 = true
      subst c21
      rw [if_pos rfl] at H
      obtain ⟨t408, A22, H⟩ := bes_ H
      try dsimp only at H
      by_cases c23 : t408 = true
      subst c23
      rw [if_pos rfl] at H
      obtain ⟨t409, A24, H⟩ := bes_ H
      try dsimp only at H
      by_cases c25 : t409 = true
      subst c25
      rw [if_pos rfl] at H
      obtain ⟨t410, A26, H⟩ := bes_ H
      try dsimp only at H
      by_cases c27 : t410 = true
      subst c27
      rw [if_pos rfl] at H
      obtain ⟨t411, A28, H⟩ := bes_ H
      try dsimp only at H
      rotate_left
      replace c27 := Bool.eq_false_iff.mpr c27
      subst c27
      rw [if_neg (show ¬ (false = true) by decide)] at H
      rotate_left
      replace c25 := Bool.eq_false_iff.mpr c25
      subst c25
      rw [if_neg (show ¬ (false = true) by decide)] at H
      rotate_left
      replace c23 := Bool.eq_false_iff.mpr c23
      subst c23
      rw [if_neg (show ¬ (false = true) by decide)] at H
      rotate_left
      replace c21 := Bool.eq_false_iff.mpr c21
      subst c21
      rw [if_neg (show ¬ (false = true) by decide)] at H
      rotate_left
      replace c19 := Bool.eq_false_iff.mpr c19
      subst c19
      rw [if_neg (show ¬ (false = true) by decide)] at H
      rotate_left
      replace c17 := Bool.eq_false_iff.mpr c17
      subst c17
      rw [if_neg (show ¬ (false = true) by decide)] at H
      rotate_left
      all_goals
       have H' := am_ H
       clear H
       have hcz29 := cells_11 BK401.out
       have hfz29 := frozen_11 BK401.out
       go_wp2_with (first | ((with_reducible refine gate_callee (f := 90) rfl ?_); refine goesL_ (some 35) rfl rfl Try.func90 (by kernel_rfl) rfl #[.int .i64 a0_3, .int .i64 (wrap64 ((wrap64 ((wrap64 (6 * (wrap64 (a0_1 + 1)))) * a0_2)) + 1)), .int .i64 400] rfl (by (try simp only [ms_]); first | done | rfl) ?_; (with_reducible refine (r03_within.calls a0_3 (wrap64 ((wrap64 ((wrap64 (6 * (wrap64 (a0_1 + 1)))) * a0_2)) + 1)) 400 _ _ A16.out).mono ?_); rintro e w' ⟨rfl, ⟨nd, rfl⟩⟩; refine ⟨_, rfl, ?_⟩) | (go_at_call 90; (with_reducible refine (r03_within.calls a0_4 1 64 _ _ A18.out).mono ?_); rintro e w' ⟨rfl, ⟨nd, rfl⟩⟩) | (go_at_call 90; (with_reducible refine (r03_within.calls a0_5 0 (wrap64 (a0_4 - 1)) _ _ A20.out).mono ?_); rintro e w' ⟨rfl, ⟨nd, rfl⟩⟩) | (go_at_call 90; (with_reducible refine (r03_within.calls a0_6 0 30000 _ _ A22.out).mono ?_); rintro e w' ⟨rfl, ⟨nd, rfl⟩⟩) | (go_at_call 90; (with_reducible refine (r03_within.calls a0_7 1 30000 _ _ A24.out).mono ?_); rintro e w' ⟨rfl, ⟨nd, rfl⟩⟩) | (go_at_call 90; (with_reducible refine (r03_within.calls a0_8 2 250 _ _ A26.out).mono ?_); rintro e w' ⟨rfl, ⟨nd, rfl⟩⟩) | (go_at_call 90; (with_reducible refine (r03_within.calls a0_9 1 100 _ _ A28.out).mono ?_); rintro e w' ⟨rfl, ⟨nd, rfl⟩⟩))
       go_meet
      ·case rel => exact ⟨_, (!t411), (by first | rfl | (simp; done) | (simp [*]; done)), H', ⟨by have := HJ1.out; first | omega | exact Nat.le_refl _⟩, ⟨by (with_reducible repeat (first | apply kn_ | apply kd_ | apply ka_)); exact BK401.out⟩, ⟨by repeat (first | (with_reducible first | exact HB.out | apply ba_ | apply bn_ | apply bd_ | refine bs_ ?_ GE401.out) | exact HB.out)⟩⟩
      all_goals
       case rel => exact ⟨_, (true), (by first | rfl | (simp; done) | (simp [*]; done)), H', ⟨by have := HJ1.out; first | omega | exact Nat.le_refl _⟩, ⟨by (with_reducible repeat (first | apply kn_ | apply kd_ | apply ka_)); exact BK401.out⟩, ⟨by repeat (first | (with_reducible first | exact HB.out | apply ba_ | apply bn_ | apply bd_ | refine bs_ ?_ GE401.out) | exact HB.out)⟩⟩
     case rest =>
      clear HC14
      try clear c1
      try clear c2
      try clear p2
      try clear c5
      try clear p6
      try clear c7
      try clear c9
      try clear c11
      try clear c13
      try clear c17
      try clear c19
      try clear c21
      try clear c23
      try clear c25
      try clear c27
      try clear hcz10
      try clear hcz15
      try clear hcz29
      try clear hcz30
      try clear hcz31
      try clear hcz32
      try clear hcz33
      try clear hcz34
      try clear hcz35
      try clear hcz8
      try clear hcz9
      try clear hfz10
      try clear hfz15
      try clear hfz29
      try clear hfz30
      try clear hfz31
      try clear hfz32
      try clear hfz33
      try clear hfz34
      try clear hfz35
      try clear hfz8
      try clear hfz9
      try clear p2
      try clear p6
      obtain ⟨kq, x75_13, rfl, HA, HJ13, BK401, HB⟩ := hcut
      cases kq with
      | zero => exact absurd HA.out (by simp [r03_Plain.j1])
      | succ kj13 =>
       have H := HA.out
       clear HA
       simp only [r03_Plain.j1] at H
       by_cases c36 : x75_13 = true
       ·subst c36
        rw [if_pos rfl] at H
        obtain rfl := Option.some.inj H
        go_wp2
        go_ret
        exact ⟨by first | rfl | (simp [*] <;> rfl), by repeat (first | (with_reducible first | exact HB.out | apply ba_ | apply bn_ | apply bd_ | refine bs_ ?_ GE401.out) | exact HB.out)⟩
       ·replace c36 := Bool.eq_false_iff.mpr c36
        subst c36
        rw [if_neg (show ¬ (false = true) by decide)] at H
        obtain ⟨t412, A37, H⟩ := bes_ H
        try dsimp only at H
        by_cases c38 : t412 = true
        subst c38
        rw [if_pos rfl] at H
        obtain ⟨t413, A39, H⟩ := bes_ H
        try dsimp only at H
        by_cases c40 : t413 = true
        subst c40
        rw [if_pos rfl] at H
        obtain rfl := Option.some.inj H
        rotate_left
        replace c40 := Bool.eq_false_iff.mpr c40
        subst c40
        rw [if_neg (show ¬ (false = true) by decide)] at H
        obtain rfl := Option.some.inj H
        rotate_left
        replace c38 := Bool.eq_false_iff.mpr c38
        subst c38
        rw [if_neg (show ¬ (false = true) by decide)] at H
        obtain rfl := Option.some.inj H
        rotate_left
        all_goals
         have hcz41 := cells_11 BK401.out
         have hfz41 := frozen_11 BK401.out
         go_wp2_with (first | ((with_reducible refine gate_callee (f := 90) rfl ?_); refine gom_ (some 79) Try.func90 (r03_within.calls (l0_10.length : Int) 1 32 _ _ A37.out) ?_; rintro e w' ⟨rfl, ⟨nd, rfl⟩⟩; refine ⟨_, rfl, ?_⟩) | (go_at_call 91; (with_reducible refine (r03_owned.calls kj13 a0_0 a0_1 a0_2 a0_3 a0_4 a0_5 a0_6 a0_7 a0_8 a0_9 _ _ l0_10 _ _ ?side1 HC0_10.out A39.out).mono ?_); (case side1 => repeat (first | exact (Kd.C_below HR0_10.out (by repeat (first | (with_reducible first | exact HB.out | apply ba_ | apply bn_ | apply bd_ | refine bs_ ?_ GE401.out) | exact HB.out))) | (with_reducible refine Kd.C_alloc ?_ _) | (with_reducible refine Kd.C_drewN ?_ _) | (with_reducible refine Kd.C_drew ?_))); rintro e w42 ⟨rfl, hb⟩; replace BK401 := am_ (blk_below (by (with_reducible repeat (first | apply kn_ | apply kd_ | apply ka_)); exact BK401.out) hb); replace HB := am_ (below_step (by repeat (first | (with_reducible first | exact HB.out | apply ba_ | apply bn_ | apply bd_ | refine bs_ ?_ GE401.out) | exact HB.out)) hb); (try clear hb)))
         go_ret
         exact ⟨by first | rfl | (simp [*] <;> rfl), by repeat (first | (with_reducible first | exact HB.out | apply ba_ | apply bn_ | apply bd_ | refine bs_ ?_ GE401.out) | exact HB.out)⟩
    ·replace c13 := Bool.eq_false_iff.mpr c13
     subst c13
     rw [if_neg (show ¬ (false = true) by decide)] at H
     obtain rfl := Option.some.inj H
     have hcz46 := cells_11 BK401.out
     have hfz46 := frozen_11 BK401.out
     go_wp2_with (first | ((with_reducible refine gate_callee (f := 90) rfl ?_); refine gom_ (some 23) Try.func90 (r03_within.calls a0_2 1 4 _ _ A12.out) ?_; rintro e w' ⟨rfl, ⟨nd, rfl⟩⟩; refine ⟨_, rfl, ?_⟩))
     go_ret
     exact ⟨by first | rfl | (simp [*] <;> rfl), by repeat (first | (with_reducible first | exact HB.out | apply ba_ | apply bn_ | apply bd_ | refine bs_ ?_ GE401.out) | exact HB.out)⟩
end Go.Proofs.Ythdoghhmooodjaa.Gn
