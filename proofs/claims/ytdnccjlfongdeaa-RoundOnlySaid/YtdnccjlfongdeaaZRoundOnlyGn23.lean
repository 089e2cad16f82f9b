import Derived.Test.YtdnccjlfongdeaaZRoundOnlyGn0
import Derived.Test.YtdnccjlfongdeaaZRoundOnlyGn2
namespace Go.Proofs.Ytdnccjlfongdeaa.Gn
open Go.RowKit Go.Proofs.YtdnccjlfongdeaaW.PrintWords Go.Proofs.YtdnccjlfongdeaaW.PrintLast Go.Proofs.YtdnccjlfongdeaaW.PrintMore
attribute [local go_sem] max2_int min2_int max_two min_two max_three min_three max_four min_four   -- for this text's walks alone
set_option linter.unusedVariables false
set_option linter.unusedSimpArgs false
def r03_within.f (a0 a1 a2 : Int) : Option (Bool) := if a0 ≥ a1 then (some (decide (a0 ≤ a2))) else (some false)
set_option maxHeartbeats 8000000 in
set_option maxRecDepth 100000 in
theorem r03_within.calls (a0 a1 a2 : Int) (r : Bool) (w : World) (h : r03_within.f a0 a1 a2 = some r) :
  Calls Try.prog 41 #[.int .i64 a0, .int .i64 a1, .int .i64 a2] w fun e w' => e = .returned (.bool r) ∧ Drawn0 w w' := by
 have H := h
 unfold r03_within.f at H
 clear h
 by_cases c4 : a0 ≥ a1
 ·rw [if_pos c4] at H
  have B0 : decide (a1 ≤ a0) = true := decide_eq_true c4
  clear c4
  obtain rfl := Option.some.inj H
  go_enter Try.func41, Try.ntmps41
  go_wp2
  go_ret
  exact ⟨by first | rfl | (simp; done) | (simp [*]; done), by repeat (first | exact Drawn0.refl _ | apply Drawn0.step)⟩
 ·rw [if_neg c4] at H
  have B0 : decide (a1 ≤ a0) = false := decide_eq_false c4
  clear c4
  obtain rfl := Option.some.inj H
  go_enter Try.func41, Try.ntmps41
  go_wp2
  go_ret
  exact ⟨by first | rfl | (simp; done) | (simp [*]; done), by repeat (first | exact Drawn0.refl _ | apply Drawn0.step)⟩
mutual
def r03_owned.l0 : Nat → Int → Int → Int → Int → Int → Int → Int → Int → Int → Int → Int → List Int → Option (Bool)
 | 0, _, _, _, _, _, _, _, _, _, _, _, _ => none
 | k + 1, x3, B1, B2, B3, B4, B5, B6, B7, B8, B9, Ba, B0 => if x3 < (B0.length : Int) then (if 0 ≤ x3 then ((r03_within.f (rd B0 x3) 0 (wrap64 (B1 - 1))).bind fun Bb => (if Bb = true then (r03_owned.l0 k (wrap64 (x3 + 1)) B1 B2 B3 B4 B5 B6 B7 B8 B9 Ba B0) else (some false))) else (none)) else (r03_owned.l1 k 0 B1 B2 B3 B4 B5 B6 B7 B8 B9 Ba B0)
def r03_owned.l1 : Nat → Int → Int → Int → Int → Int → Int → Int → Int → Int → Int → Int → List Int → Option (Bool)
 | 0, _, _, _, _, _, _, _, _, _, _, _, _ => none
 | k + 1, x4, B1, B2, B3, B4, B5, B6, B7, B8, B9, Ba, B0 => if x4 < B1 then (r03_owned.l2 k x4 false 0 B1 B2 B3 B4 B5 B6 B7 B8 B9 Ba B0) else (some true)
def r03_owned.l2 : Nat → Int → Bool → Int → Int → Int → Int → Int → Int → Int → Int → Int → Int → Int → List Int → Option (Bool)
 | 0, _, _, _, _, _, _, _, _, _, _, _, _, _, _ => none
 | k + 1, x4, x5, x6, B1, B2, B3, B4, B5, B6, B7, B8, B9, Ba, B0 => if x6 < (B0.length : Int) then (if x5 = true then (r03_owned.l2 k x4 true (wrap64 (x6 + 1)) B1 B2 B3 B4 B5 B6 B7 B8 B9 Ba B0) else (if 0 ≤ x6 then (r03_owned.l2 k x4 ((rd B0 x6) == x4) (wrap64 (x6 + 1)) B1 B2 B3 B4 B5 B6 B7 B8 B9 Ba B0) else (none))) else (if x5 = true then (r03_owned.l1 k (wrap64 (x4 + 1)) B1 B2 B3 B4 B5 B6 B7 B8 B9 Ba B0) else (some false))
end
def r03_owned.f (k : Nat) (B1 B2 B3 B4 B5 B6 B7 B8 B9 Ba : Int) (B0 : List Int) : Option (Bool) := r03_owned.l0 k 0 B1 B2 B3 B4 B5 B6 B7 B8 B9 Ba B0
set_option maxHeartbeats 8000000 in
set_option maxRecDepth 100000 in
theorem r03_owned.calls (k : Nat) (B4 B9 Ba Bb Bc Bd Be Bf Bg Bh : Int) (B7 : Option Addr) (B8 : Nat) (B0 : List Int) (r : Bool) (w : World) (Bo : Kd.C (Kd.int .i64) w B7 B0.length B0) (Bp : B0.length ≤ B8) (h : r03_owned.f k B4 B9 Ba Bb Bc Bd Be Bf Bg Bh B0 = some r) :
  Calls Try.prog 42 #[.agg #[.int .i64 B4, .int .i64 B9, .int .i64 Ba, .int .i64 Bb, .int .i64 Bc, .int .i64 Bd, .int .i64 Be, .int .i64 Bf, .int .i64 Bg, .int .i64 Bh, .slice B7 B0.length B8]] w fun e w' => e = .returned (.bool r) ∧ Below w.heap.size w w' := by
 have Dt := Try.underlying24
 have Bm := am_ Bo
 have Dg := am_ Bp
 clear Bo Bp
 have HB := am_ (Below.refl w.heap.size w)
 have H := h
 unfold r03_owned.f at H
 clear h
 have H' := am_ H
 clear H
 go_enter Try.func42, Try.ntmps42
 iterate 8 (go_wp2_with (first | ((with_reducible refine gate_dst (N := 1) rfl ?_); refine bxe_ 1 24 #[.int .i64 B4, .int .i64 B9, .int .i64 Ba, .int .i64 Bb, .int .i64 Bc, .int .i64 Bd, .int .i64 Be, .int .i64 Bf, .int .i64 Bg, .int .i64 Bh, .slice B7 B0.length B8] ?_; intro Bn hg w2 hbox hb; have B1 := am_ (hbox); have Bq := gwk_ HB hg; have B5 := Bq; replace HB := bst_ HB hb; clear hb hbox hg)); try (go_quiet (first | ((with_reducible refine gate_dst (N := 1) rfl ?_); refine bxe_ 1 24 #[.int .i64 B4, .int .i64 B9, .int .i64 Ba, .int .i64 Bb, .int .i64 Bc, .int .i64 Bd, .int .i64 Be, .int .i64 Bf, .int .i64 Bg, .int .i64 Bh, .slice B7 B0.length B8] ?_; intro Bn hg w2 hbox hb; have B1 := am_ (hbox); have Bq := gwk_ HB hg; have B5 := Bq; replace HB := bst_ HB hb; clear hb hbox hg))))
 go_loopg [3] k (fun kq v3 w' => ∃ (B3 : Int), v3 = .int .i64 B3 ∧ Aside0 (r03_owned.l0 kq B3 B4 B9 Ba Bb Bc Bd Be Bf Bg Bh B0 = some r) ∧ Aside0 (kq ≤ k) ∧ Aside0 (w'.heap[Bn]? = some (.cells #[.int .i64 B4, .int .i64 B9, .int .i64 Ba, .int .i64 Bb, .int .i64 Bc, .int .i64 Bd, .int .i64 Be, .int .i64 Bf, .int .i64 Bg, .int .i64 Bh, (.slice B7 B0.length B8)] 24 (0, 0))) ∧ Aside0 (Below w.heap.size w w'))
 case atStart => exact ⟨(0), (by first | rfl | (simp; done) | (simp [*]; done)), H', ⟨Nat.le_refl _⟩, ⟨by (with_reducible repeat (first | apply kn_ | apply kd_ | apply ka_)); exact B1.out⟩, ⟨by repeat (first | (with_reducible first | exact HB.out | apply ba_ | apply bn_ | apply bd_ | refine bs_ ?_ B5.out) | exact HB.out)⟩⟩
 case round =>
  clear H'
  try clear p2
  obtain ⟨B3, rfl, HA, Bt, B1, HB⟩ := hrel
  cases gk with
  | zero => exact absurd HA.out (by simp [r03_owned.l0])
  | succ k1 =>
   have H := HA.out
   clear HA
   simp only [r03_owned.l0] at H
   by_cases c3 : B3 < (B0.length : Int)
   ·rw [if_pos c3] at H
    have Bu : decide (B3 < (B0.length : Int)) = true := decide_eq_true c3
    clear c3
    by_cases c4 : 0 ≤ B3
    ·rw [if_pos c4] at H
     have D0 : decide (0 ≤ B3) = true := decide_eq_true c4
     clear c4
     obtain ⟨Dh, A5, H⟩ := bes_ H
     try dsimp only at H
     by_cases c6 : Dh = true
     ·subst c6
      rw [if_pos rfl] at H
      have H' := am_ H
      clear H
      have D1 := cells_11 B1.out
      have D2 := frozen_11 B1.out
      have Bi : 0 ≤ (B3 : Int) := of_decide_eq_true (by first | (with_reducible assumption) | assumption)
      have Bj : B3 < (B0.length : Int) := of_decide_eq_true (by first | (with_reducible assumption) | assumption)
      obtain ⟨D3, Bv, B2⟩ := Kd.at_int Bm.out B3 Bi Bj
      cases Bv
      replace B2 := (HB.out.cell (World.block_lt_of_cell? w _ B2)).trans B2
      replace Bi := eq_true Bi
      replace Bj := eq_true Bj
      iterate 8 (go_wp2_with (first | (go_at_call 41; (with_reducible refine (r03_within.calls (rd B0 B3) 0 (wrap64 (B4 - 1)) _ _ A5.out).mono ?_); rintro e w' ⟨rfl, ⟨nd, rfl⟩⟩; (try first | exact ⟨rfl, _, World.drewN_drewN _ _ _⟩ | exact ⟨rfl, _, Eq.trans (World.drewN_drewN _ _ _) (congrArg (World.drewN _) (Nat.add_assoc _ _ _))⟩))); try (go_quiet (first | (go_at_call 41; (with_reducible refine (r03_within.calls (rd B0 B3) 0 (wrap64 (B4 - 1)) _ _ A5.out).mono ?_); rintro e w' ⟨rfl, ⟨nd, rfl⟩⟩; (try first | exact ⟨rfl, _, World.drewN_drewN _ _ _⟩ | exact ⟨rfl, _, Eq.trans (World.drewN_drewN _ _ _) (congrArg (World.drewN _) (Nat.add_assoc _ _ _))⟩)))))
      go_roundg k1
      case measure => have := Bt.out; omega
      case rel => exact ⟨(wrap64 (B3 + 1)), (by first | rfl | (simp; done) | (simp [*]; done)), H', ⟨by have := Bt.out; omega⟩, ⟨by (with_reducible repeat (first | apply kn_ | apply kd_ | apply ka_)); exact B1.out⟩, ⟨by repeat (first | (with_reducible first | exact HB.out | apply ba_ | apply bn_ | apply bd_ | refine bs_ ?_ B5.out) | exact HB.out)⟩⟩
     ·replace c6 := Bool.eq_false_iff.mpr c6
      subst c6
      rw [if_neg (show ¬ (false = true) by decide)] at H
      obtain rfl := Option.some.inj H
      have D4 := cells_11 B1.out
      have D5 := frozen_11 B1.out
      have Bi : 0 ≤ (B3 : Int) := of_decide_eq_true (by first | (with_reducible assumption) | assumption)
      have Bj : B3 < (B0.length : Int) := of_decide_eq_true (by first | (with_reducible assumption) | assumption)
      obtain ⟨D3, Bv, B2⟩ := Kd.at_int Bm.out B3 Bi Bj
      cases Bv
      replace B2 := (HB.out.cell (World.block_lt_of_cell? w _ B2)).trans B2
      replace Bi := eq_true Bi
      replace Bj := eq_true Bj
      iterate 8 (go_wp2_with (first | (go_at_call 41; (with_reducible refine (r03_within.calls (rd B0 B3) 0 (wrap64 (B4 - 1)) _ _ A5.out).mono ?_); rintro e w' ⟨rfl, ⟨nd, rfl⟩⟩; (try first | exact ⟨rfl, _, World.drewN_drewN _ _ _⟩ | exact ⟨rfl, _, Eq.trans (World.drewN_drewN _ _ _) (congrArg (World.drewN _) (Nat.add_assoc _ _ _))⟩))); try (go_quiet (first | (go_at_call 41; (with_reducible refine (r03_within.calls (rd B0 B3) 0 (wrap64 (B4 - 1)) _ _ A5.out).mono ?_); rintro e w' ⟨rfl, ⟨nd, rfl⟩⟩; (try first | exact ⟨rfl, _, World.drewN_drewN _ _ _⟩ | exact ⟨rfl, _, Eq.trans (World.drewN_drewN _ _ _) (congrArg (World.drewN _) (Nat.add_assoc _ _ _))⟩)))))
      go_ret
      exact ⟨by first | rfl | (simp [*] <;> rfl), by repeat (first | (with_reducible first | exact HB.out | apply ba_ | apply bn_ | apply bd_ | refine bs_ ?_ B5.out) | exact HB.out)⟩
    ·rw [if_neg c4] at H
     exact absurd H (by simp)
   ·rw [if_neg c3] at H
    have Bu : decide (B3 < (B0.length : Int)) = false := decide_eq_false c3
    clear c3
    have H' := am_ H
    clear H
    have D6 := cells_11 B1.out
    have D7 := frozen_11 B1.out
    go_wp2
    repeat (go_quiet (fail); try go_wp2)
    go_loopg [4] k1 (fun kq v4 w' => ∃ (Bk : Int), v4 = .int .i64 Bk ∧ Aside0 (r03_owned.l1 kq Bk B4 B9 Ba Bb Bc Bd Be Bf Bg Bh B0 = some r) ∧ Aside0 (kq ≤ k1) ∧ Aside0 (w'.heap[Bn]? = some (.cells #[.int .i64 B4, .int .i64 B9, .int .i64 Ba, .int .i64 Bb, .int .i64 Bc, .int .i64 Bd, .int .i64 Be, .int .i64 Bf, .int .i64 Bg, .int .i64 Bh, (.slice B7 B0.length B8)] 24 (0, 0))) ∧ Aside0 (Below w.heap.size w w'))
    case atStart => exact ⟨(0), (by first | rfl | (simp; done) | (simp [*]; done)), H', ⟨Nat.le_refl _⟩, ⟨by (with_reducible repeat (first | apply kn_ | apply kd_ | apply ka_)); exact B1.out⟩, ⟨by repeat (first | (with_reducible first | exact HB.out | apply ba_ | apply bn_ | apply bd_ | refine bs_ ?_ B5.out) | exact HB.out)⟩⟩
    case round =>
     clear H'
     try clear p2
     try clear c3
     try clear Bu
     try clear c4
     try clear D0
     try clear p4
     try clear q4
     try clear hx4
     try clear c6
     try clear p6
     try clear D1
     try clear D4
     try clear D6
     try clear D2
     try clear D5
     try clear D7
     try clear B2
     try clear p2
     try clear Bi
     try clear Bj
     obtain ⟨Bk, rfl, HA, D8, B1, HB⟩ := hrel
     cases gk with
     | zero => exact absurd HA.out (by simp [r03_owned.l1])
     | succ k2 =>
      have H := HA.out
      clear HA
      simp only [r03_owned.l1] at H
      by_cases Bw : Bk < B4
      ·rw [if_pos Bw] at H
       have Bs : decide (Bk < B4) = true := decide_eq_true Bw
       clear Bw
       have H' := am_ H
       clear H
       have D9 := cells_11 B1.out
       have Da := frozen_11 B1.out
       go_wp2
       repeat (go_quiet (fail); try go_wp2)
       go_loopg [5, 6] k2 (fun kq v5 v6 w' => ∃ (Br : Bool) (B6 : Int), v5 = .bool Br ∧ v6 = .int .i64 B6 ∧ Aside0 (r03_owned.l2 kq Bk Br B6 B4 B9 Ba Bb Bc Bd Be Bf Bg Bh B0 = some r) ∧ Aside0 (kq ≤ k2) ∧ Aside0 (w'.heap[Bn]? = some (.cells #[.int .i64 B4, .int .i64 B9, .int .i64 Ba, .int .i64 Bb, .int .i64 Bc, .int .i64 Bd, .int .i64 Be, .int .i64 Bf, .int .i64 Bg, .int .i64 Bh, (.slice B7 B0.length B8)] 24 (0, 0))) ∧ Aside0 (Below w.heap.size w w'))
       case atStart => exact ⟨(false), (0), (by first | rfl | (simp; done) | (simp [*]; done)), (by first | rfl | (simp; done) | (simp [*]; done)), H', ⟨Nat.le_refl _⟩, ⟨by (with_reducible repeat (first | apply kn_ | apply kd_ | apply ka_)); exact B1.out⟩, ⟨by repeat (first | (with_reducible first | exact HB.out | apply ba_ | apply bn_ | apply bd_ | refine bs_ ?_ B5.out) | exact HB.out)⟩⟩
       case round =>
        clear H'
        try clear c1
        try clear p2
        try clear c3
        try clear Bu
        try clear c4
        try clear D0
        try clear p4
        try clear q4
        try clear hx4
        try clear c6
        try clear p6
        try clear Bw
        try clear Bs
        try clear D9
        try clear D1
        try clear D4
        try clear D6
        try clear Da
        try clear D2
        try clear D5
        try clear D7
        try clear B2
        try clear p2
        try clear p4
        try clear Bi
        try clear p6
        try clear q4
        try clear Bj
        obtain ⟨Br, B6, rfl, rfl, HA, Db, B1, HB⟩ := hrel
        cases gk with
        | zero => exact absurd HA.out (by simp [r03_owned.l2])
        | succ k3 =>
         have H := HA.out
         clear HA
         simp only [r03_owned.l2] at H
         by_cases Bz : B6 < (B0.length : Int)
         rw [if_pos Bz] at H
         have Dc : decide (B6 < (B0.length : Int)) = true := decide_eq_true Bz
         clear Bz
         by_cases Dd : Br = true
         subst Dd
         rw [if_pos rfl] at H
         rotate_left
         ·replace Dd := Bool.eq_false_iff.mpr Dd
          subst Dd
          rw [if_neg (show ¬ (false = true) by decide)] at H
          by_cases De : 0 ≤ B6
          ·rw [if_pos De] at H
           have Dj : decide (0 ≤ B6) = true := decide_eq_true De
           clear De
           have H' := am_ H
           clear H
           have Dk := cells_11 B1.out
           have Dl := frozen_11 B1.out
           have Bx : 0 ≤ (B6 : Int) := of_decide_eq_true (by first | (with_reducible assumption) | assumption)
           have By : B6 < (B0.length : Int) := of_decide_eq_true (by first | (with_reducible assumption) | assumption)
           obtain ⟨Dm, Di, Bl⟩ := Kd.at_int Bm.out B6 Bx By
           cases Di
           replace Bl := (HB.out.cell (World.block_lt_of_cell? w _ Bl)).trans Bl
           replace Bx := eq_true Bx
           replace By := eq_true By
           go_wp2
           repeat (go_quiet (fail); try go_wp2)
           go_roundg k3
           case measure => have := Bt.out; have := D8.out; have := Db.out; omega
           case rel => exact ⟨(((rd B0 B6) == Bk)), (wrap64 (B6 + 1)), (by first | rfl | (simp; done) | (simp [*]; done)), (by first | rfl | (simp; done) | (simp [*]; done)), H', ⟨by have := Bt.out; have := D8.out; have := Db.out; omega⟩, ⟨by (with_reducible repeat (first | apply kn_ | apply kd_ | apply ka_)); exact B1.out⟩, ⟨by repeat (first | (with_reducible first | exact HB.out | apply ba_ | apply bn_ | apply bd_ | refine bs_ ?_ B5.out) | exact HB.out)⟩⟩
          ·rw [if_neg De] at H
           exact absurd H (by simp)
         rw [if_neg Bz] at H
         have Dc : decide (B6 < (B0.length : Int)) = false := decide_eq_false Bz
         clear Bz
         by_cases Df : Br = true
         subst Df
         rw [if_pos rfl] at H
         rotate_left
         ·replace Df := Bool.eq_false_iff.mpr Df
          subst Df
          rw [if_neg (show ¬ (false = true) by decide)] at H
          obtain rfl := Option.some.inj H
          have Dn := cells_11 B1.out
          have Do := frozen_11 B1.out
          go_wp2
          repeat (go_quiet (fail); try go_wp2)
          go_ret
          exact ⟨by first | rfl | (simp [*] <;> rfl), by repeat (first | (with_reducible first | exact HB.out | apply ba_ | apply bn_ | apply bd_ | refine bs_ ?_ B5.out) | exact HB.out)⟩
         all_goals
          have H' := am_ H
          clear H
          have Dp := cells_11 B1.out
          have Dq := frozen_11 B1.out
          go_wp2
          repeat (go_quiet (fail); try go_wp2)
          go_roundg k3
          case measure => have := Bt.out; have := D8.out; have := Db.out; omega
         ·case rel => exact ⟨(true), (wrap64 (B6 + 1)), (by first | rfl | (simp; done) | (simp [*]; done)), (by first | rfl | (simp; done) | (simp [*]; done)), H', ⟨by have := Bt.out; have := D8.out; have := Db.out; omega⟩, ⟨by (with_reducible repeat (first | apply kn_ | apply kd_ | apply ka_)); exact B1.out⟩, ⟨by repeat (first | (with_reducible first | exact HB.out | apply ba_ | apply bn_ | apply bd_ | refine bs_ ?_ B5.out) | exact HB.out)⟩⟩
         ·case rel => exact ⟨(wrap64 (Bk + 1)), (by first | rfl | (simp; done) | (simp [*]; done)), H', ⟨by have := Bt.out; have := D8.out; have := Db.out; omega⟩, ⟨by (with_reducible repeat (first | apply kn_ | apply kd_ | apply ka_)); exact B1.out⟩, ⟨by repeat (first | (with_reducible first | exact HB.out | apply ba_ | apply bn_ | apply bd_ | refine bs_ ?_ B5.out) | exact HB.out)⟩⟩
      ·rw [if_neg Bw] at H
       have Bs : decide (Bk < B4) = false := decide_eq_false Bw
       clear Bw
       obtain rfl := Option.some.inj H
       have Dr := cells_11 B1.out
       have Ds := frozen_11 B1.out
       go_wp2
       repeat (go_quiet (fail); try go_wp2)
       go_ret
       exact ⟨by first | rfl | (simp [*] <;> rfl), by repeat (first | (with_reducible first | exact HB.out | apply ba_ | apply bn_ | apply bd_ | refine bs_ ?_ B5.out) | exact HB.out)⟩
end Go.Proofs.Ytdnccjlfongdeaa.Gn
