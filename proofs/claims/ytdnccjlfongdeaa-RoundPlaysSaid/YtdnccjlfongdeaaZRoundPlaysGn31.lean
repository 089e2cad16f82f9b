import Derived.Test.YtdnccjlfongdeaaZRoundPlaysGn2
import Derived.Test.YtdnccjlfongdeaaZRoundPlaysGn0
import Derived.Test.YtdnccjlfongdeaaZRoundPlaysGn25
namespace Go.Proofs.Ytdnccjlfongdeaa.Gn
open Go.RowKit Go.Proofs.YtdnccjlfongdeaaW.PrintWords Go.Proofs.YtdnccjlfongdeaaW.PrintLast Go.Proofs.YtdnccjlfongdeaaW.PrintMore
attribute [local go_sem] max2_int min2_int max_two min_two max_three min_three max_four min_four   -- for this text's walks alone
set_option linter.unusedVariables false
set_option linter.unusedSimpArgs false
def r38_lie.l0 : Nat → List (S45) → Int → Int → Int → Int → Option ((List (S45)))
 | 0, _, _, _, _, _ => none
 | k + 1, x0, x1, x2, x3, x9 => if x9 < (x0.length : Int) then (if 0 ≤ x9 then (if ((rd_T45 x0 x9).f0) = x1 then (if ((rd_T45 x0 x9).f1) = x2 then ((r38_cut.f ((rd_T45 x0 x9).f3)).bind fun B0 => (some (([(⟨x1, x2, x3, B0⟩ : S45)] : List (S45))))) else (r38_lie.l0 k x0 x1 x2 x3 (wrap64 (x9 + 1)))) else (r38_lie.l0 k x0 x1 x2 x3 (wrap64 (x9 + 1)))) else (none)) else (some ([] : List (S45)))
def r38_lie.f (k : Nat) (l0 : List (S45)) (a1 a2 a3 : Int) : Option ((List (S45))) := r38_lie.l0 k l0 a1 a2 a3 0
set_option maxHeartbeats 8000000 in
set_option maxRecDepth 100000 in
theorem r38_lie.calls (k : Nat) (A0 : Option Addr) (c0 : Nat) (l0 : List (S45)) (a1 a2 a3 : Int) (r : List (S45)) (w : World) (D1 : Kd.C k45 w A0 l0.length l0) (D2 : l0.length ≤ c0) (h : r38_lie.f k l0 a1 a2 a3 = some r) :
  Calls Try.prog 31 #[.slice A0 l0.length c0, .int .i64 a1, .int .i64 a2, .int .i64 a3] w fun e w' => ∃ D3 : Value, e = .returned (D3) ∧ Kd.R k45 45 w' w.heap.size (fun _ => True) D3 r ∧ Below w.heap.size w w' := by
 have D4 := Try.underlying45
 have Bq := am_ D1
 have D6 := am_ D2
 clear D1 D2
 have HB := am_ (Below.refl w.heap.size w)
 have H : (r38_lie.l0 k l0 a1 a2 a3 0) = some r := h
 clear h
 have H' := am_ H
 clear H
 go_enter Try.func31, Try.ntmps31
 go_wp2
 go_loopg [9] k (fun kq v9 w' => ∃ (B0 : Int), v9 = .int .i64 B0 ∧ Aside0 (r38_lie.l0 kq l0 a1 a2 a3 B0 = some r) ∧ Aside0 (kq ≤ k) ∧ Aside0 (Below w.heap.size w w'))
 case atStart => exact ⟨(0), (by first | rfl | (simp; done) | (simp [*]; done)), H', ⟨Nat.le_refl _⟩, ⟨by repeat (first | (with_reducible first | exact HB.out | apply ba_ | apply bn_ | apply bd_) | exact HB.out)⟩⟩
 case round =>
  clear H'
  try clear p2
  try clear c3
  obtain ⟨B0, rfl, HA, Bt, HB⟩ := hrel
  cases gk with
  | zero => exact absurd HA.out (by simp [r38_lie.l0])
  | succ k1 =>
   have H := HA.out
   clear HA
   simp only [r38_lie.l0] at H
   by_cases c5 : B0 < (l0.length : Int)
   ·rw [if_pos c5] at H
    have Bu : decide (B0 < (l0.length : Int)) = true := decide_eq_true c5
    clear c5
    by_cases c6 : 0 ≤ B0
    ·rw [if_pos c6] at H
     have D5 : decide (0 ≤ B0) = true := decide_eq_true c6
     clear c6
     by_cases c7 : ((rd_T45 l0 B0).f0) = a1
     rw [if_pos c7] at H
     have Bv : (((rd_T45 l0 B0).f0) == a1) = true := beq_iff_eq.mpr c7
     have Bw : (((rd_T45 l0 B0).f0) != a1) = false := bne_eq_false_iff_eq.mpr c7
     clear c7
     by_cases c8 : ((rd_T45 l0 B0).f1) = a2
     ·rw [if_pos c8] at H
      have Bx : (((rd_T45 l0 B0).f1) == a2) = true := beq_iff_eq.mpr c8
      have By : (((rd_T45 l0 B0).f1) != a2) = false := bne_eq_false_iff_eq.mpr c8
      clear c8
      obtain ⟨Bi, A9, H⟩ := bes_ H
      try dsimp only at H
      obtain ⟨y405, hy405⟩ : ∃ y_ : List (S45), y_ = (([(⟨a1, a2, a3, Bi⟩ : S45)] : List (S45))) := ⟨_, rfl⟩
      replace H : (some y405) = some r := by first | (rw [hy405]; with_reducible exact H) | (have Bz := (Option.bind_some _ _).symm.trans H; rw [hy405]; with_reducible exact Bz) | (have Bz := (Option.bind_some _ _).symm.trans H; with_reducible exact Bz) | with_reducible exact H | (rw [hy405]; exact H) | exact H
      have Bl := am_ hy405
      clear hy405
      obtain rfl := Option.some.inj H
      have Bd : 0 ≤ (B0 : Int) := of_decide_eq_true (by first | (with_reducible assumption) | assumption)
      have Be : B0 < (l0.length : Int) := of_decide_eq_true (by first | (with_reducible assumption) | assumption)
      obtain ⟨Bh, Bm, B1, B2, B3, B4⟩ := at_T45 Bq.out B0 Bd Be
      cases Bm
      replace B1 := (HB.out.cell (World.block_lt_of_cell? w _ B1)).trans B1
      replace B2 := (HB.out.cell (World.block_lt_of_cell? w _ B2)).trans B2
      replace B3 := (HB.out.cell (World.block_lt_of_cell? w _ B3)).trans B3
      replace B4 := (HB.out.cell (World.block_lt_of_cell? w _ B4)).trans B4
      replace Bd := eq_true Bd
      replace Be := eq_true Be
      have Bf : 0 ≤ (B0 : Int) := of_decide_eq_true (by first | (with_reducible assumption) | assumption)
      have Bg : B0 < (l0.length : Int) := of_decide_eq_true (by first | (with_reducible assumption) | assumption)
      obtain ⟨Bj, Bn, B5, B6, B7, B8⟩ := at_T45 Bq.out B0 Bf Bg
      obtain rfl : Bh = Bj := (by injection Bn)
      replace B5 := (HB.out.cell (World.block_lt_of_cell? w _ B5)).trans B5
      replace B6 := (HB.out.cell (World.block_lt_of_cell? w _ B6)).trans B6
      replace B7 := (HB.out.cell (World.block_lt_of_cell? w _ B7)).trans B7
      replace B8 := (HB.out.cell (World.block_lt_of_cell? w _ B8)).trans B8
      replace Bf := eq_true Bf
      replace Bg := eq_true Bg
      have Bo : 0 ≤ (B0 : Int) := of_decide_eq_true (by first | (with_reducible assumption) | assumption)
      have Bp : B0 < (l0.length : Int) := of_decide_eq_true (by first | (with_reducible assumption) | assumption)
      obtain ⟨Br, D0, B9, Ba, Bb, Bc⟩ := at_T45 Bq.out B0 Bo Bp
      obtain rfl : Bh = Br := (by injection D0)
      replace B9 := (HB.out.cell (World.block_lt_of_cell? w _ B9)).trans B9
      replace Ba := (HB.out.cell (World.block_lt_of_cell? w _ Ba)).trans Ba
      replace Bb := (HB.out.cell (World.block_lt_of_cell? w _ Bb)).trans Bb
      replace Bc := (HB.out.cell (World.block_lt_of_cell? w _ Bc)).trans Bc
      replace Bo := eq_true Bo
      replace Bp := eq_true Bp
      go_wp2_with (first | ((with_reducible refine gate_callee (f := 29) rfl ?_); refine gom_ (some 40) Try.func29 (r38_cut.calls ((rd_T45 l0 B0).f3) _ _ A9.out) ?_; rintro e w10 ⟨rfl, hb⟩; refine ⟨_, rfl, ?_⟩; replace HB := bst_ HB hb; (try clear hb)) | ((with_reducible refine gate_dst (N := 42) rfl ?_); refine Kd.R_lit k45 _ 45 ?hg (N := 42) ?hd (xs := ([(⟨a1, a2, a3, Bi⟩ : S45)] : List (S45))) (inner := [.int .i64 a1, .int .i64 a2, .int .i64 a3, .string Bi]) (ok := fun _ => True) (okp := fun _ => True) ?hr ?hp (fun _ hk => hk) trivial (Below.refl _ _) (Nat.le_refl _) (by simp) ?_; (case hd => rfl); (case hg => rfl); (case hr => first | (go_simp; done) | (go_simp; rfl)); (case hp => exact (Reps.c4 (show Kd.M k45 _ _ _ (⟨a1, a2, a3, Bi⟩ : S45) [.int .i64 a1, .int .i64 a2, .int .i64 a3, .string Bi] from (k45_mkM _ _ _ (⟨a1, a2, a3, Bi⟩ : S45) )) (Reps.none _ _))); intro v406 w11 Bk hb hg_ hnew_; clear hg_ hnew_; (first | rw [← Bl.out] at Bk | (simp only [Int.reduceToNat] at Bk; rw [← Bl.out] at Bk)); have Bs := am_ (Kd.R_lower Bk (below_size HB.out)); replace HB := bst_ HB hb; clear hb Bk))
      go_ret
      exact ⟨_, by first | rfl | (simp [*] <;> rfl), by (with_reducible repeat (first | apply Kd.R_alloc | apply Kd.R_drewN | apply Kd.R_drew)); exact Bs.out, by repeat (first | (with_reducible first | exact HB.out | apply ba_ | apply bn_ | apply bd_) | exact HB.out)⟩
     rw [if_neg c8] at H
     have Bx : (((rd_T45 l0 B0).f1) == a2) = false := beq_eq_false_iff_ne.mpr c8
     have By : (((rd_T45 l0 B0).f1) != a2) = true := bne_iff_ne.mpr c8
     rotate_left
     rw [if_neg c7] at H
     have Bv : (((rd_T45 l0 B0).f0) == a1) = false := beq_eq_false_iff_ne.mpr c7
     have Bw : (((rd_T45 l0 B0).f0) != a1) = true := bne_iff_ne.mpr c7
     rotate_left
     all_goals
      have H' := am_ H
      clear H
      have Bd : 0 ≤ (B0 : Int) := of_decide_eq_true (by first | (with_reducible assumption) | assumption)
      have Be : B0 < (l0.length : Int) := of_decide_eq_true (by first | (with_reducible assumption) | assumption)
      obtain ⟨Bh, Bm, B1, B2, B3, B4⟩ := at_T45 Bq.out B0 Bd Be
      cases Bm
      replace B1 := (HB.out.cell (World.block_lt_of_cell? w _ B1)).trans B1
      replace B2 := (HB.out.cell (World.block_lt_of_cell? w _ B2)).trans B2
      replace B3 := (HB.out.cell (World.block_lt_of_cell? w _ B3)).trans B3
      replace B4 := (HB.out.cell (World.block_lt_of_cell? w _ B4)).trans B4
      replace Bd := eq_true Bd
      replace Be := eq_true Be
     ·have Bf : 0 ≤ (B0 : Int) := of_decide_eq_true (by first | (with_reducible assumption) | assumption)
      have Bg : B0 < (l0.length : Int) := of_decide_eq_true (by first | (with_reducible assumption) | assumption)
      obtain ⟨Bj, Bn, B5, B6, B7, B8⟩ := at_T45 Bq.out B0 Bf Bg
      obtain rfl : Bh = Bj := (by injection Bn)
      replace B5 := (HB.out.cell (World.block_lt_of_cell? w _ B5)).trans B5
      replace B6 := (HB.out.cell (World.block_lt_of_cell? w _ B6)).trans B6
      replace B7 := (HB.out.cell (World.block_lt_of_cell? w _ B7)).trans B7
      replace B8 := (HB.out.cell (World.block_lt_of_cell? w _ B8)).trans B8
      replace Bf := eq_true Bf
      replace Bg := eq_true Bg
      go_wp2
      go_roundg k1
      case measure => have := Bt.out; omega
      case rel => exact ⟨(wrap64 (B0 + 1)), (by first | rfl | (simp; done) | (simp [*]; done)), H', ⟨by have := Bt.out; omega⟩, ⟨by repeat (first | (with_reducible first | exact HB.out | apply ba_ | apply bn_ | apply bd_) | exact HB.out)⟩⟩
     ·go_wp2
      go_roundg k1
      case measure => have := Bt.out; omega
      case rel => exact ⟨(wrap64 (B0 + 1)), (by first | rfl | (simp; done) | (simp [*]; done)), H', ⟨by have := Bt.out; omega⟩, ⟨by repeat (first | (with_reducible first | exact HB.out | apply ba_ | apply bn_ | apply bd_) | exact HB.out)⟩⟩
    ·rw [if_neg c6] at H
     exact absurd H (by simp)
   ·rw [if_neg c5] at H
    have Bu : decide (B0 < (l0.length : Int)) = false := decide_eq_false c5
    clear c5
    obtain rfl := Option.some.inj H
    go_wp2
    go_ret
    exact ⟨_, by first | rfl | (simp [*] <;> rfl), by first | exact Kd.R_nil _ _ _ _ _ | exact Kd.N_nil _ _ _ _ _ | exact Kd.V_nil _ _ _ _ _ | exact Kd.Q_nil _ _ _ _ _ | exact Kd.S_nil _ _ _ _ _, by repeat (first | (with_reducible first | exact HB.out | apply ba_ | apply bn_ | apply bd_) | exact HB.out)⟩
end Go.Proofs.Ytdnccjlfongdeaa.Gn
