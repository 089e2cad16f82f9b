import Derived.Test.YtdnccjlfongdeaaZRoundFitsGn0
import Derived.Test.YtdnccjlfongdeaaZRoundFitsGn2
import Derived.Test.YtdnccjlfongdeaaZRoundFitsGn26
namespace Go.Proofs.Ytdnccjlfongdeaa.Gn
open Go.RowKit Go.Proofs.YtdnccjlfongdeaaW.PrintWords Go.Proofs.YtdnccjlfongdeaaW.PrintLast Go.Proofs.YtdnccjlfongdeaaW.PrintMore
attribute [local go_sem] max2_int min2_int max_two min_two max_three min_three max_four min_four   -- for this text's walks alone
set_option linter.unusedVariables false
set_option linter.unusedSimpArgs false
mutual
def r38_one.l0 : Nat → List Int → List (S45) → Int → List Bool → Int → Int → Int → Int → Int → Int → Int → Int → Int → Int → Int → List Int → Int → ByteArray → List ByteArray → List (List (S45)) → Option (Int)
 | 0, _, _, _, _, _, _, _, _, _, _, _, _, _, _, _, _, _, _, _, _ => none
 | k + 1, x1, x3, x9, Bj, Bh, B1, B2, B3, B4, B5, B6, B7, B8, B9, Ba, B0, Bd, Be, Bc, Bf => if Bh < (x3.length : Int) then (if 0 ≤ Bh then (if ((rd_T45 x3 Bh).f1) ≤ x9 then (r38_one.j1 k x1 x3 Bj Bh true B1 B2 B3 B4 B5 B6 B7 B8 B9 Ba B0 Bd Be Bc Bf ((rd_T45 x3 Bh).f0) ((rd_T45 x3 Bh).f1) ((rd_T45 x3 Bh).f2) ((rd_T45 x3 Bh).f3)) else (r38_one.j1 k x1 x3 Bj Bh (decide (((rd_T45 x3 Bh).f1) ≥ (B0.length : Int))) B1 B2 B3 B4 B5 B6 B7 B8 B9 Ba B0 Bd Be Bc Bf ((rd_T45 x3 Bh).f0) ((rd_T45 x3 Bh).f1) ((rd_T45 x3 Bh).f2) ((rd_T45 x3 Bh).f3))) else (none)) else (r38_one.l1 k x1 Bj 0 B1 B2 B3 B4 B5 B6 B7 B8 B9 Ba B0)
def r38_one.j1 : Nat → List Int → List (S45) → List Bool → Int → Bool → Int → Int → Int → Int → Int → Int → Int → Int → Int → Int → List Int → Int → ByteArray → List ByteArray → List (List (S45)) → Int → Int → Int → ByteArray → Option (Int)
 | 0, _, _, _, _, _, _, _, _, _, _, _, _, _, _, _, _, _, _, _, _, _, _, _, _ => none
 | k + 1, x1, x3, Bj, Bh, Bo, B1, B2, B3, B4, B5, B6, B7, B8, B9, Ba, B0, Bd, Be, Bc, Bf, Bg, Bb, Bk, Bi => if Bo = true then (some 11) else (if 0 ≤ Bb then (if Bb < (B0.length : Int) then (if Bg = (rd B0 Bb) then (if Bk = Bd then (if (Bi.size : Int) > 16 then (some 15) else ((r14_In.f k x1 Bg).bind fun Bm => (if Bm = true then (if Bb < (Bj.length : Int) then (r38_one.l0 k x1 x3 Bb (Bj.set (Bb : Int).toNat true) (wrap64 (Bh + 1)) B1 B2 B3 B4 B5 B6 B7 B8 B9 Ba B0 Bd Be Bc Bf) else (none)) else (if 0 ≤ Bg then (if Bg < (Bc.length : Int) then (if Bi.toList = (rdOf ByteArray.empty Bc Bg).toList then (if Bb < (Bj.length : Int) then (r38_one.l0 k x1 x3 Bb (Bj.set (Bb : Int).toNat true) (wrap64 (Bh + 1)) B1 B2 B3 B4 B5 B6 B7 B8 B9 Ba B0 Bd Be Bc Bf) else (none)) else (some 15)) else (none)) else (none))))) else (some 16)) else (some 12)) else (none)) else (none))
def r38_one.l1 : Nat → List Int → List Bool → Int → Int → Int → Int → Int → Int → Int → Int → Int → Int → Int → List Int → Option (Int)
 | 0, _, _, _, _, _, _, _, _, _, _, _, _, _, _ => none
 | k + 1, x1, Bj, Bl, B1, B2, B3, B4, B5, B6, B7, B8, B9, Ba, B0 => if Bl < (B0.length : Int) then (if 0 ≤ Bl then (if Bl < (Bj.length : Int) then (if rdOf false Bj Bl = true then (r38_one.l1 k x1 Bj (wrap64 (Bl + 1)) B1 B2 B3 B4 B5 B6 B7 B8 B9 Ba B0) else ((r14_In.f k x1 (rd B0 Bl)).bind fun Bn => (if Bn = true then (r38_one.l1 k x1 Bj (wrap64 (Bl + 1)) B1 B2 B3 B4 B5 B6 B7 B8 B9 Ba B0) else (some 10)))) else (none)) else (none)) else (some 0)
end
def r38_one.f (k : Nat) (B1 B2 B3 B4 B5 B6 B7 B8 B9 Ba : Int) (B0 l1 : List Int) (Bb : Int) (Bc : ByteArray) (Bd : List ByteArray) (Be : List (List (S45))) (l3 : List (S45)) : Option (Int) := if 0 ≤ (B0.length : Int) then (if ((B0.length : Int) : Int).toNat ≤ 281474976710656 then (r38_one.l0 k l1 l3 (-1) (List.replicate ((B0.length : Int) : Int).toNat false) 0 B1 B2 B3 B4 B5 B6 B7 B8 B9 Ba B0 Bb Bc Bd Be) else (none)) else (none)
set_option maxHeartbeats 8000000 in
set_option maxRecDepth 100000 in
theorem r38_one.calls (k : Nat) (Bq Br Bs Bt Bu Bv Bw Bx By Bz : Int) (Dh : Option Addr) (D1 : Nat) (B4 : List Int) (A1 : Option Addr) (c1 : Nat) (l1 : List Int) (Bm : Int) (Bp : ByteArray) (Df : Option Addr) (D8 : Nat) (Bk : List ByteArray) (D9 : Option Addr) (Da : Nat) (Bn : List (List (S45))) (A3 : Option Addr) (c3 : Nat) (l3 : List (S45)) (r : Int) (w : World) (Ee : Kd.C (Kd.int .i64) w Dh B4.length B4) (Ef : B4.length ≤ D1) (Mh : Kd.C (Kd.int .i64) w A1 l1.length l1) (Mi : l1.length ≤ c1) (Gs : Kd.C Kd.string w Df Bk.length Bk) (Gt : Bk.length ≤ D8) (Gu : Kd.C (Kd.slice 45 k45) w D9 Bn.length Bn) (Gv : Bn.length ≤ Da) (Mj : Kd.C k45 w A3 l3.length l3) (Mk : l3.length ≤ c3) (h : r38_one.f k Bq Br Bs Bt Bu Bv Bw Bx By Bz B4 l1 Bm Bp Bk Bn l3 = some r) :
  Calls Try.prog 40 #[.agg #[.int .i64 Bq, .int .i64 Br, .int .i64 Bs, .int .i64 Bt, .int .i64 Bu, .int .i64 Bv, .int .i64 Bw, .int .i64 Bx, .int .i64 By, .int .i64 Bz, .slice Dh B4.length D1], .slice A1 l1.length c1, .agg #[.int .i64 Bm, .string Bp, .slice Df Bk.length D8, .slice D9 Bn.length Da], .slice A3 l3.length c3] w fun e w' => e = .returned (.int .i64 r) ∧ Below w.heap.size w w' := by
 have Ox := Try.underlying24
 have Oy := Try.underlying32
 have Oz := Try.underlying45
 have Dg := am_ Ee
 have M4 := am_ Ef
 clear Ee Ef
 have Et := am_ Mh
 have Eu := am_ Mi
 clear Mh Mi
 have E3 := am_ Gs
 have Ml := am_ Gt
 clear Gs Gt
 have Mm := am_ Gu
 have Mn := am_ Gv
 clear Gu Gv
 have R0 := am_ Mj
 have R7 := am_ Mk
 clear Mj Mk
 have HB := am_ (Below.refl w.heap.size w)
 have H := h
 unfold r38_one.f at H
 clear h
 by_cases c5 : 0 ≤ (B4.length : Int)
 ·rw [if_pos c5] at H
  have Jh := eq_true c5
  have Ji : decide (0 ≤ (B4.length : Int)) = true := decide_eq_true c5
  clear c5
  by_cases c6 : ((B4.length : Int) : Int).toNat ≤ 281474976710656
  ·rw [if_pos c6] at H
   have Jj := eq_true c6
   have Jk : decide (((B4.length : Int) : Int).toNat ≤ 281474976710656) = true := decide_eq_true c6
   clear c6
   obtain ⟨y403, hy403⟩ : ∃ y_ : List Bool, y_ = (List.replicate ((B4.length : Int) : Int).toNat false) := ⟨_, rfl⟩
   replace H : (r38_one.l0 k l1 l3 (-1) y403 0 Bq Br Bs Bt Bu Bv Bw Bx By Bz B4 Bm Bp Bk Bn) = some r := by first | (rw [hy403]; with_reducible exact H) | (have Eg := (Option.bind_some _ _).symm.trans H; rw [hy403]; with_reducible exact Eg) | (have Eg := (Option.bind_some _ _).symm.trans H; with_reducible exact Eg) | with_reducible exact H | (rw [hy403]; exact H) | exact H
   have Di := am_ hy403
   clear hy403
   have H' := am_ H
   clear H
   go_enter Try.func40, Try.ntmps40
   go_wp2_with (first | ((with_reducible refine gate_dst (N := 4) rfl ?_); (try (refine gate_guard (by rfl) ?_; dsimp only)); refine bxe_ 4 24 #[.int .i64 Bq, .int .i64 Br, .int .i64 Bs, .int .i64 Bt, .int .i64 Bu, .int .i64 Bv, .int .i64 Bw, .int .i64 Bx, .int .i64 By, .int .i64 Bz, .slice Dh B4.length D1] ?_; intro Bl hg w7 hbox hb; have Bo := below_of hb (by repeat (first | (with_reducible first | exact HB.out | apply ba_ | apply bn_ | apply bd_) | exact HB.out)); have B1 := am_ (hbox); have Dp := am_ ((by rw [hg]; exact (below_size Bo) : w.heap.size ≤ Bl)); have Bf := Dp; replace HB := am_ (below_step Bo hb); clear Bo; clear hb hbox hg) | ((with_reducible refine gate_dst (N := 6) rfl ?_); (try (refine gate_guard (by rfl) ?_; dsimp only)); refine bxe_ 6 32 #[.int .i64 Bm, .string Bp, .slice Df Bk.length D8, .slice D9 Bn.length Da] ?_; intro Ba hg w8 hbox hb; have Bo := below_of hb (by repeat (first | (with_reducible first | exact HB.out | apply ba_ | apply bn_ | apply bd_ | refine bs_ ?_ Bf.out) | exact HB.out)); have B2 := am_ (hbox); have Dq := am_ ((by rw [hg]; exact (below_size Bo) : w.heap.size ≤ Ba)); have Bj := Dq; replace HB := am_ (below_step Bo hb); have B7 := am_ ((by rw [hg]; exact Nat.ne_of_lt (blk_lt (by (with_reducible repeat (first | apply kn_ | apply kd_ | apply ka_)); exact B1.out)) : Bl ≠ Ba)); have Bc := nbs_ B7; replace B1 := am_ (blk_below (by (with_reducible repeat (first | apply kn_ | apply kd_ | apply ka_)); exact B1.out) hb); clear Bo; clear hb hbox hg; have L0 := B7.out; have L1 := Bc.out; have Dj := cells_11 B1.out; have Dr := frozen_11 B1.out) | ((with_reducible refine gate_dst (N := 17) rfl ?_); (try (refine gate_guard (by rfl) ?_; dsimp only)); refine Kd.R_make Kd.bool _ 4 rfl (N := 17) rfl 76 _ _ rfl (B4.length : Int) rfl rfl Try.underlying76 (.bool false) 1 info4 rfl (by decide) (by omega) false (ok := fun _ => True) (okp := fun _ => True) rfl (fun _ hk => hk) trivial (of_decide_eq_true (by first | (with_reducible assumption) | assumption)) (Nat.le_trans (Nat.mul_le_mul_right _ (of_decide_eq_true (by first | (with_reducible assumption) | assumption) : (B4.length : Int).toNat ≤ 281474976710656)) (by omega)) (Below.refl _ _) (Nat.le_refl _) ?_; intro v404 w11 D2 hb hg_ hnew_; clear hg_ hnew_; (first | rw [← Di.out] at D2 | (simp only [Int.reduceToNat] at D2; rw [← Di.out] at D2)); have Bo := below_of hb (by repeat (first | (with_reducible first | exact HB.out | apply ba_ | apply bn_ | apply bd_ | refine bs_ ?_ Bf.out | refine bs_ ?_ Bj.out) | exact HB.out)); have Eh := am_ (Kd.R_lower D2 (below_size Bo)); replace B1 := am_ (blk_below (by (with_reducible repeat (first | apply kn_ | apply kd_ | apply ka_)); exact B1.out) hb); replace B2 := am_ (blk_below (by (with_reducible repeat (first | apply kn_ | apply kd_ | apply ka_)); exact B2.out) hb); replace HB := am_ (below_step Bo hb); clear Bo; clear hb D2))
   repeat ((try have Dj := cells_11 B1.out); go_quiet (first | ((with_reducible refine gate_dst (N := 4) rfl ?_); (try (refine gate_guard (by rfl) ?_; dsimp only)); refine bxe_ 4 24 #[.int .i64 Bq, .int .i64 Br, .int .i64 Bs, .int .i64 Bt, .int .i64 Bu, .int .i64 Bv, .int .i64 Bw, .int .i64 Bx, .int .i64 By, .int .i64 Bz, .slice Dh B4.length D1] ?_; intro Bl hg w7 hbox hb; have Bo := below_of hb (by repeat (first | (with_reducible first | exact HB.out | apply ba_ | apply bn_ | apply bd_) | exact HB.out)); have B1 := am_ (hbox); have Dp := am_ ((by rw [hg]; exact (below_size Bo) : w.heap.size ≤ Bl)); have Bf := Dp; replace HB := am_ (below_step Bo hb); clear Bo; clear hb hbox hg) | ((with_reducible refine gate_dst (N := 6) rfl ?_); (try (refine gate_guard (by rfl) ?_; dsimp only)); refine bxe_ 6 32 #[.int .i64 Bm, .string Bp, .slice Df Bk.length D8, .slice D9 Bn.length Da] ?_; intro Ba hg w8 hbox hb; have Bo := below_of hb (by repeat (first | (with_reducible first | exact HB.out | apply ba_ | apply bn_ | apply bd_ | refine bs_ ?_ Bf.out) | exact HB.out)); have B2 := am_ (hbox); have Dq := am_ ((by rw [hg]; exact (below_size Bo) : w.heap.size ≤ Ba)); have Bj := Dq; replace HB := am_ (below_step Bo hb); have B7 := am_ ((by rw [hg]; exact Nat.ne_of_lt (blk_lt (by (with_reducible repeat (first | apply kn_ | apply kd_ | apply ka_)); exact B1.out)) : Bl ≠ Ba)); have Bc := nbs_ B7; replace B1 := am_ (blk_below (by (with_reducible repeat (first | apply kn_ | apply kd_ | apply ka_)); exact B1.out) hb); clear Bo; clear hb hbox hg; have L0 := B7.out; have L1 := Bc.out; (try have Dj := cells_11 B1.out); (try have Dr := frozen_11 B1.out)) | ((with_reducible refine gate_dst (N := 17) rfl ?_); (try (refine gate_guard (by rfl) ?_; dsimp only)); refine Kd.R_make Kd.bool _ 4 rfl (N := 17) rfl 76 _ _ rfl (B4.length : Int) rfl rfl Try.underlying76 (.bool false) 1 info4 rfl (by decide) (by omega) false (ok := fun _ => True) (okp := fun _ => True) rfl (fun _ hk => hk) trivial (of_decide_eq_true (by first | (with_reducible assumption) | assumption)) (Nat.le_trans (Nat.mul_le_mul_right _ (of_decide_eq_true (by first | (with_reducible assumption) | assumption) : (B4.length : Int).toNat ≤ 281474976710656)) (by omega)) (Below.refl _ _) (Nat.le_refl _) ?_; intro v404 w11 D2 hb hg_ hnew_; clear hg_ hnew_; (first | rw [← Di.out] at D2 | (simp only [Int.reduceToNat] at D2; rw [← Di.out] at D2)); have Bo := below_of hb (by repeat (first | (with_reducible first | exact HB.out | apply ba_ | apply bn_ | apply bd_ | refine bs_ ?_ Bf.out | refine bs_ ?_ Bj.out) | exact HB.out)); have Eh := am_ (Kd.R_lower D2 (below_size Bo)); replace B1 := am_ (blk_below (by (with_reducible repeat (first | apply kn_ | apply kd_ | apply ka_)); exact B1.out) hb); replace B2 := am_ (blk_below (by (with_reducible repeat (first | apply kn_ | apply kd_ | apply ka_)); exact B2.out) hb); replace HB := am_ (below_step Bo hb); clear Bo; clear hb D2)); try go_wp2_with (first | ((with_reducible refine gate_dst (N := 4) rfl ?_); (try (refine gate_guard (by rfl) ?_; dsimp only)); refine bxe_ 4 24 #[.int .i64 Bq, .int .i64 Br, .int .i64 Bs, .int .i64 Bt, .int .i64 Bu, .int .i64 Bv, .int .i64 Bw, .int .i64 Bx, .int .i64 By, .int .i64 Bz, .slice Dh B4.length D1] ?_; intro Bl hg w7 hbox hb; have Bo := below_of hb (by repeat (first | (with_reducible first | exact HB.out | apply ba_ | apply bn_ | apply bd_) | exact HB.out)); have B1 := am_ (hbox); have Dp := am_ ((by rw [hg]; exact (below_size Bo) : w.heap.size ≤ Bl)); have Bf := Dp; replace HB := am_ (below_step Bo hb); clear Bo; clear hb hbox hg) | ((with_reducible refine gate_dst (N := 6) rfl ?_); (try (refine gate_guard (by rfl) ?_; dsimp only)); refine bxe_ 6 32 #[.int .i64 Bm, .string Bp, .slice Df Bk.length D8, .slice D9 Bn.length Da] ?_; intro Ba hg w8 hbox hb; have Bo := below_of hb (by repeat (first | (with_reducible first | exact HB.out | apply ba_ | apply bn_ | apply bd_ | refine bs_ ?_ Bf.out) | exact HB.out)); have B2 := am_ (hbox); have Dq := am_ ((by rw [hg]; exact (below_size Bo) : w.heap.size ≤ Ba)); have Bj := Dq; replace HB := am_ (below_step Bo hb); have B7 := am_ ((by rw [hg]; exact Nat.ne_of_lt (blk_lt (by (with_reducible repeat (first | apply kn_ | apply kd_ | apply ka_)); exact B1.out)) : Bl ≠ Ba)); have Bc := nbs_ B7; replace B1 := am_ (blk_below (by (with_reducible repeat (first | apply kn_ | apply kd_ | apply ka_)); exact B1.out) hb); clear Bo; clear hb hbox hg; have L0 := B7.out; have L1 := Bc.out; (try have Dj := cells_11 B1.out); (try have Dr := frozen_11 B1.out)) | ((with_reducible refine gate_dst (N := 17) rfl ?_); (try (refine gate_guard (by rfl) ?_; dsimp only)); refine Kd.R_make Kd.bool _ 4 rfl (N := 17) rfl 76 _ _ rfl (B4.length : Int) rfl rfl Try.underlying76 (.bool false) 1 info4 rfl (by decide) (by omega) false (ok := fun _ => True) (okp := fun _ => True) rfl (fun _ hk => hk) trivial (of_decide_eq_true (by first | (with_reducible assumption) | assumption)) (Nat.le_trans (Nat.mul_le_mul_right _ (of_decide_eq_true (by first | (with_reducible assumption) | assumption) : (B4.length : Int).toNat ≤ 281474976710656)) (by omega)) (Below.refl _ _) (Nat.le_refl _) ?_; intro v404 w11 D2 hb hg_ hnew_; clear hg_ hnew_; (first | rw [← Di.out] at D2 | (simp only [Int.reduceToNat] at D2; rw [← Di.out] at D2)); have Bo := below_of hb (by repeat (first | (with_reducible first | exact HB.out | apply ba_ | apply bn_ | apply bd_ | refine bs_ ?_ Bf.out | refine bs_ ?_ Bj.out) | exact HB.out)); have Eh := am_ (Kd.R_lower D2 (below_size Bo)); replace B1 := am_ (blk_below (by (with_reducible repeat (first | apply kn_ | apply kd_ | apply ka_)); exact B1.out) hb); replace B2 := am_ (blk_below (by (with_reducible repeat (first | apply kn_ | apply kd_ | apply ka_)); exact B2.out) hb); replace HB := am_ (below_step Bo hb); clear Bo; clear hb D2)))
   go_loopg [9, 11] k (fun kq v9 v11 w' => ∃ (Ed : Int) (Bg : List Bool) (B0 : Int), v9 = .int .i64 Ed ∧ v11 = .int .i64 B0 ∧ Aside0 (r38_one.l0 kq l1 l3 Ed Bg B0 Bq Br Bs Bt Bu Bv Bw Bx By Bz B4 Bm Bp Bk Bn = some r) ∧ Aside0 (kq ≤ k) ∧ Aside0 (Kd.R Kd.bool 4 w' w.heap.size (fun _ => True) v404 Bg) ∧ Aside0 (w'.heap[Bl]? = some (.cells #[.int .i64 Bq, .int .i64 Br, .int .i64 Bs, .int .i64 Bt, .int .i64 Bu, .int .i64 Bv, .int .i64 Bw, .int .i64 Bx, .int .i64 By, .int .i64 Bz, (.slice Dh B4.length D1)] 24 (0, 0))) ∧ Aside0 (w'.heap[Ba]? = some (.cells #[.int .i64 Bm, .string Bp, (.slice Df Bk.length D8), (.slice D9 Bn.length Da)] 32 (0, 0))) ∧ Aside0 (Below w.heap.size w w'))
   case atStart => exact ⟨((-1)), (y403), (0), (by first | rfl | (simp; done) | (simp [*]; done)), (by first | rfl | (simp; done) | (simp [*]; done)), H', ⟨Nat.le_refl _⟩, ⟨by (with_reducible repeat (first | apply Kd.R_alloc | apply Kd.R_drewN | apply Kd.R_drew)); exact Eh.out⟩, ⟨by (with_reducible repeat (first | apply kn_ | apply kd_ | apply ka_)); exact B1.out⟩, ⟨by (with_reducible repeat (first | apply kn_ | apply kd_ | apply ka_)); exact B2.out⟩, ⟨by repeat (first | (with_reducible first | exact HB.out | apply ba_ | apply bn_ | apply bd_ | refine bs_ ?_ Bf.out | refine bs_ ?_ Bj.out) | exact HB.out)⟩⟩
   case round =>
    clear H'
    try clear c1
    try clear c2
    try clear p2
    try clear c3
    try clear c4
    try clear c5
    try clear Jh
    try clear Ji
    try clear c6
    try clear Jj
    try clear Jk
    try clear c9
    try clear Dj
    try clear Dr
    obtain ⟨Ed, Bg, B0, rfl, rfl, HA, Es, B5, B1, B2, HB⟩ := hrel
    cases gk with
    | zero => exact absurd HA.out (by simp [r38_one.l0])
    | succ k1 =>
     have H := HA.out
     clear HA
     simp only [r38_one.l0] at H
     by_cases Gw : B0 < (l3.length : Int)
     ·rw [if_pos Gw] at H
      have Ei : decide (B0 < (l3.length : Int)) = true := decide_eq_true Gw
      clear Gw
      by_cases Jy : 0 ≤ B0
      ·rw [if_pos Jy] at H
       have Gx : decide (0 ≤ B0) = true := decide_eq_true Jy
       clear Jy
       have Jl := am_ H
       clear H
       have Ej : 0 ≤ (B0 : Int) := of_decide_eq_true (by first | (with_reducible assumption) | assumption)
       have Ek : B0 < (l3.length : Int) := of_decide_eq_true (by first | (with_reducible assumption) | assumption)
       obtain ⟨Mo, M5, Db, Dc, Dd, De⟩ := at_T45 R0.out B0 Ej Ek
       cases M5
       replace Db := (HB.out.cell (World.block_lt_of_cell? w _ Db)).trans Db
       replace Dc := (HB.out.cell (World.block_lt_of_cell? w _ Dc)).trans Dc
       replace Dd := (HB.out.cell (World.block_lt_of_cell? w _ Dd)).trans Dd
       replace De := (HB.out.cell (World.block_lt_of_cell? w _ De)).trans De
       replace Ej := eq_true Ej
       replace Ek := eq_true Ek
       go_upto_region 7 with (first | ((with_reducible refine gate_dst (N := 12) rfl ?_); (try (refine gate_guard (by rfl) ?_; dsimp only)); refine bxe_ 12 45 #[.int .i64 0, .int .i64 0, .int .i64 0, .string (⟨#[]⟩ : ByteArray)] ?_; intro B6 hg w16 hbox hb; have Bo := below_of hb (by repeat (first | (with_reducible first | exact HB.out | apply ba_ | apply bn_ | apply bd_ | refine bs_ ?_ Bf.out | refine bs_ ?_ Bj.out) | exact HB.out)); replace B5 := am_ (Kd.R_below (by (with_reducible repeat (first | apply Kd.R_alloc | apply Kd.R_drewN | apply Kd.R_drew)); exact B5.out) hb); have B3 := am_ (hbox); have Ds := am_ ((by rw [hg]; exact (below_size Bo) : w.heap.size ≤ B6)); have D3 := Ds; replace HB := am_ (below_step Bo hb); have B8 := am_ ((by rw [hg]; exact Nat.ne_of_lt (blk_lt (by (with_reducible repeat (first | apply kn_ | apply kd_ | apply ka_)); exact B1.out)) : Bl ≠ B6)); have Bh := nbs_ B8; replace B1 := am_ (blk_below (by (with_reducible repeat (first | apply kn_ | apply kd_ | apply ka_)); exact B1.out) hb); have B9 := am_ ((by rw [hg]; exact Nat.ne_of_lt (blk_lt (by (with_reducible repeat (first | apply kn_ | apply kd_ | apply ka_)); exact B2.out)) : Ba ≠ B6)); have Bi := nbs_ B9; replace B2 := am_ (blk_below (by (with_reducible repeat (first | apply kn_ | apply kd_ | apply ka_)); exact B2.out) hb); clear Bo; clear hb hbox hg; have Gy := Bh.out; have Gz := B8.out; have J0 := Bi.out; have J1 := B9.out; have Dt := cells_4 B3.out; have E4 := frozen_4 B3.out))
       repeat ((try have Dt := cells_4 B3.out); go_quiet (first | ((with_reducible refine gate_dst (N := 12) rfl ?_); (try (refine gate_guard (by rfl) ?_; dsimp only)); refine bxe_ 12 45 #[.int .i64 0, .int .i64 0, .int .i64 0, .string (⟨#[]⟩ : ByteArray)] ?_; intro B6 hg w16 hbox hb; have Bo := below_of hb (by repeat (first | (with_reducible first | exact HB.out | apply ba_ | apply bn_ | apply bd_ | refine bs_ ?_ Bf.out | refine bs_ ?_ Bj.out) | exact HB.out)); replace B5 := am_ (Kd.R_below (by (with_reducible repeat (first | apply Kd.R_alloc | apply Kd.R_drewN | apply Kd.R_drew)); exact B5.out) hb); have B3 := am_ (hbox); have Ds := am_ ((by rw [hg]; exact (below_size Bo) : w.heap.size ≤ B6)); have D3 := Ds; replace HB := am_ (below_step Bo hb); have B8 := am_ ((by rw [hg]; exact Nat.ne_of_lt (blk_lt (by (with_reducible repeat (first | apply kn_ | apply kd_ | apply ka_)); exact B1.out)) : Bl ≠ B6)); have Bh := nbs_ B8; replace B1 := am_ (blk_below (by (with_reducible repeat (first | apply kn_ | apply kd_ | apply ka_)); exact B1.out) hb); have B9 := am_ ((by rw [hg]; exact Nat.ne_of_lt (blk_lt (by (with_reducible repeat (first | apply kn_ | apply kd_ | apply ka_)); exact B2.out)) : Ba ≠ B6)); have Bi := nbs_ B9; replace B2 := am_ (blk_below (by (with_reducible repeat (first | apply kn_ | apply kd_ | apply ka_)); exact B2.out) hb); clear Bo; clear hb hbox hg; have Gy := Bh.out; have Gz := B8.out; have J0 := Bi.out; have J1 := B9.out; (try have Dt := cells_4 B3.out); (try have E4 := frozen_4 B3.out))); go_upto_region 7 with (first | ((with_reducible refine gate_dst (N := 12) rfl ?_); (try (refine gate_guard (by rfl) ?_; dsimp only)); refine bxe_ 12 45 #[.int .i64 0, .int .i64 0, .int .i64 0, .string (⟨#[]⟩ : ByteArray)] ?_; intro B6 hg w16 hbox hb; have Bo := below_of hb (by repeat (first | (with_reducible first | exact HB.out | apply ba_ | apply bn_ | apply bd_ | refine bs_ ?_ Bf.out | refine bs_ ?_ Bj.out) | exact HB.out)); replace B5 := am_ (Kd.R_below (by (with_reducible repeat (first | apply Kd.R_alloc | apply Kd.R_drewN | apply Kd.R_drew)); exact B5.out) hb); have B3 := am_ (hbox); have Ds := am_ ((by rw [hg]; exact (below_size Bo) : w.heap.size ≤ B6)); have D3 := Ds; replace HB := am_ (below_step Bo hb); have B8 := am_ ((by rw [hg]; exact Nat.ne_of_lt (blk_lt (by (with_reducible repeat (first | apply kn_ | apply kd_ | apply ka_)); exact B1.out)) : Bl ≠ B6)); have Bh := nbs_ B8; replace B1 := am_ (blk_below (by (with_reducible repeat (first | apply kn_ | apply kd_ | apply ka_)); exact B1.out) hb); have B9 := am_ ((by rw [hg]; exact Nat.ne_of_lt (blk_lt (by (with_reducible repeat (first | apply kn_ | apply kd_ | apply ka_)); exact B2.out)) : Ba ≠ B6)); have Bi := nbs_ B9; replace B2 := am_ (blk_below (by (with_reducible repeat (first | apply kn_ | apply kd_ | apply ka_)); exact B2.out) hb); clear Bo; clear hb hbox hg; have Gy := Bh.out; have Gz := B8.out; have J0 := Bi.out; have J1 := B9.out; (try have Dt := cells_4 B3.out); (try have E4 := frozen_4 B3.out))))
       (try simp only [Act.put, zs_])
       go_cut [39] (fun v39 wc => ∃ (kq : Nat) (Dl : Bool), v39 = .bool Dl ∧ Aside0 (r38_one.j1 kq l1 l3 Bg B0 Dl Bq Br Bs Bt Bu Bv Bw Bx By Bz B4 Bm Bp Bk Bn ((rd_T45 l3 B0).f0) ((rd_T45 l3 B0).f1) ((rd_T45 l3 B0).f2) ((rd_T45 l3 B0).f3) = some r) ∧ Aside0 (kq ≤ k1) ∧ Aside0 (Kd.R Kd.bool 4 wc w.heap.size (fun _ => True) v404 Bg) ∧ Aside0 (wc.heap[Bl]? = some (.cells #[.int .i64 Bq, .int .i64 Br, .int .i64 Bs, .int .i64 Bt, .int .i64 Bu, .int .i64 Bv, .int .i64 Bw, .int .i64 Bx, .int .i64 By, .int .i64 Bz, (.slice Dh B4.length D1)] 24 (0, 0))) ∧ Aside0 (wc.heap[Ba]? = some (.cells #[.int .i64 Bm, .string Bp, (.slice Df Bk.length D8), (.slice D9 Bn.length Da)] 32 (0, 0))) ∧ Aside0 (wc.heap[B6]? = some (.cells #[.int .i64 ((rd_T45 l3 B0).f0), .int .i64 ((rd_T45 l3 B0).f1), .int .i64 ((rd_T45 l3 B0).f2), .string ((rd_T45 l3 B0).f3)] 45 (0, 0))) ∧ Aside0 (Below w.heap.size w wc))
       case first =>
        have H := Jl.out
        clear Jl
        by_cases Jm : ((rd_T45 l3 B0).f1) ≤ Ed
        rw [if_pos Jm] at H
        have Du : decide (((rd_T45 l3 B0).f1) ≤ Ed) = true := decide_eq_true Jm
        rotate_left
        rw [if_neg Jm] at H
        have Du : decide (((rd_T45 l3 B0).f1) ≤ Ed) = false := decide_eq_false Jm
        rotate_left
        all_goals
         clear Jm
         (first | rw [Du] | (simp only [i64_w, i32_w]; rw [Du]) | skip)
         have H' := am_ H
         clear H
         have Mp := Bh.out
         have Mq := B8.out
         have Mr := Bi.out
         have Ms := B9.out
         have E5 : w16.cell? ⟨B6, 0, none⟩ = some (.int .i64 0) := (blk_cell B3.out 0).trans rfl
         have E6 : w16.cell? ⟨B6, 1, none⟩ = some (.int .i64 0) := (blk_cell B3.out 1).trans rfl
         have E7 : w16.cell? ⟨B6, 2, none⟩ = some (.int .i64 0) := (blk_cell B3.out 2).trans rfl
         have E8 : w16.cell? ⟨B6, 3, none⟩ = some (.string (⟨#[]⟩ : ByteArray)) := (blk_cell B3.out 3).trans rfl
         have E9 := blk_frozen B3.out 0
         have Ea := blk_frozen B3.out 1
         have Eb := blk_frozen B3.out 2
         have Ec := blk_frozen B3.out 3
        ·go_wp2
         repeat (go_quiet (fail); try go_wp2)
         go_meet
         case rel => exact ⟨_, (true), (by first | rfl | (simp; done) | (simp [*]; done)), H', ⟨by have := Es.out; first | omega | exact Nat.le_refl _⟩, ⟨by (with_reducible repeat (first | apply Kd.R_alloc | apply Kd.R_drewN | apply Kd.R_drew)); exact Kd.R_mono (Kd.R_far (p := ⟨B6, 3, none⟩) (Kd.R_far (p := ⟨B6, 2, none⟩) (Kd.R_far (p := ⟨B6, 1, none⟩) (Kd.R_far (p := ⟨B6, 0, none⟩) (Kd.R_types B5.out B3.out (by decide)) (fun _ hk => hk.2) (.int .i64 ((rd_T45 l3 B0).f0))) (fun _ hk => hk.2) (.int .i64 ((rd_T45 l3 B0).f1))) (fun _ hk => hk.2) (.int .i64 ((rd_T45 l3 B0).f2))) (fun _ hk => hk.2) (.string ((rd_T45 l3 B0).f3))) (fun _ hk => trivial)⟩, ⟨by (iterate 4 ((with_reducible repeat (first | apply kn_ | apply kd_ | apply ka_)); refine blk_far ?_ B8.out _)); (with_reducible repeat (first | apply kn_ | apply kd_ | apply ka_)); exact B1.out⟩, ⟨by (iterate 4 ((with_reducible repeat (first | apply kn_ | apply kd_ | apply ka_)); refine blk_far ?_ B9.out _)); (with_reducible repeat (first | apply kn_ | apply kd_ | apply ka_)); exact B2.out⟩, ⟨by (with_reducible repeat (first | apply kn_ | apply kd_ | apply ka_)); refine blk_put (cs := #[.int .i64 ((rd_T45 l3 B0).f0), .int .i64 ((rd_T45 l3 B0).f1), .int .i64 ((rd_T45 l3 B0).f2), .string (⟨#[]⟩ : ByteArray)]) ?_ 3 _ rfl; (with_reducible repeat (first | apply kn_ | apply kd_ | apply ka_)); refine blk_put (cs := #[.int .i64 ((rd_T45 l3 B0).f0), .int .i64 ((rd_T45 l3 B0).f1), .int .i64 0, .string (⟨#[]⟩ : ByteArray)]) ?_ 2 _ rfl; (with_reducible repeat (first | apply kn_ | apply kd_ | apply ka_)); refine blk_put (cs := #[.int .i64 ((rd_T45 l3 B0).f0), .int .i64 0, .int .i64 0, .string (⟨#[]⟩ : ByteArray)]) ?_ 1 _ rfl; (with_reducible repeat (first | apply kn_ | apply kd_ | apply ka_)); refine blk_put (cs := #[.int .i64 0, .int .i64 0, .int .i64 0, .string (⟨#[]⟩ : ByteArray)]) ?_ 0 _ rfl; (with_reducible repeat (first | apply kn_ | apply kd_ | apply ka_)); exact B3.out⟩, ⟨by repeat (first | (with_reducible first | exact HB.out | apply ba_ | apply bn_ | apply bd_ | refine bs_ ?_ Bf.out | refine bs_ ?_ Bj.out | refine bs_ ?_ D3.out) | exact HB.out)⟩⟩
        ·have Mt := B7.out
         have Mu := Bc.out
         have J2 := cells_11 B1.out
         have J3 := frozen_11 B1.out
         go_wp2
         repeat (go_quiet (fail); try go_wp2)
         go_meet
         case rel => exact ⟨_, (decide (((rd_T45 l3 B0).f1) ≥ (B4.length : Int))), (by first | rfl | (simp; done) | (simp [*]; done)), H', ⟨by have := Es.out; first | omega | exact Nat.le_refl _⟩, ⟨by (with_reducible repeat (first | apply Kd.R_alloc | apply Kd.R_drewN | apply Kd.R_drew)); exact Kd.R_mono (Kd.R_far (p := ⟨B6, 3, none⟩) (Kd.R_far (p := ⟨B6, 2, none⟩) (Kd.R_far (p := ⟨B6, 1, none⟩) (Kd.R_far (p := ⟨B6, 0, none⟩) (Kd.R_types B5.out B3.out (by decide)) (fun _ hk => hk.2) (.int .i64 ((rd_T45 l3 B0).f0))) (fun _ hk => hk.2) (.int .i64 ((rd_T45 l3 B0).f1))) (fun _ hk => hk.2) (.int .i64 ((rd_T45 l3 B0).f2))) (fun _ hk => hk.2) (.string ((rd_T45 l3 B0).f3))) (fun _ hk => trivial)⟩, ⟨by (iterate 4 ((with_reducible repeat (first | apply kn_ | apply kd_ | apply ka_)); refine blk_far ?_ B8.out _)); (with_reducible repeat (first | apply kn_ | apply kd_ | apply ka_)); exact B1.out⟩, ⟨by (iterate 4 ((with_reducible repeat (first | apply kn_ | apply kd_ | apply ka_)); refine blk_far ?_ B9.out _)); (with_reducible repeat (first | apply kn_ | apply kd_ | apply ka_)); exact B2.out⟩, ⟨by (with_reducible repeat (first | apply kn_ | apply kd_ | apply ka_)); refine blk_put (cs := #[.int .i64 ((rd_T45 l3 B0).f0), .int .i64 ((rd_T45 l3 B0).f1), .int .i64 ((rd_T45 l3 B0).f2), .string (⟨#[]⟩ : ByteArray)]) ?_ 3 _ rfl; (with_reducible repeat (first | apply kn_ | apply kd_ | apply ka_)); refine blk_put (cs := #[.int .i64 ((rd_T45 l3 B0).f0), .int .i64 ((rd_T45 l3 B0).f1), .int .i64 0, .string (⟨#[]⟩ : ByteArray)]) ?_ 2 _ rfl; (with_reducible repeat (first | apply kn_ | apply kd_ | apply ka_)); refine blk_put (cs := #[.int .i64 ((rd_T45 l3 B0).f0), .int .i64 0, .int .i64 0, .string (⟨#[]⟩ : ByteArray)]) ?_ 1 _ rfl; (with_reducible repeat (first | apply kn_ | apply kd_ | apply ka_)); refine blk_put (cs := #[.int .i64 0, .int .i64 0, .int .i64 0, .string (⟨#[]⟩ : ByteArray)]) ?_ 0 _ rfl; (with_reducible repeat (first | apply kn_ | apply kd_ | apply ka_)); exact B3.out⟩, ⟨by repeat (first | (with_reducible first | exact HB.out | apply ba_ | apply bn_ | apply bd_ | refine bs_ ?_ Bf.out | refine bs_ ?_ Bj.out | refine bs_ ?_ D3.out) | exact HB.out)⟩⟩
       case rest =>
        clear Jl
        try clear c1
        try clear c2
        try clear p2
        try clear c3
        try clear c4
        try clear p4
        try clear q4
        try clear hx4
        try clear c5
        try clear Jh
        try clear Ji
        try clear c6
        try clear Jj
        try clear Jk
        try clear c9
        try clear Gw
        try clear Ei
        try clear Jy
        try clear Gx
        try clear c17
        try clear c18
        try clear Jm
        try clear Du
        try clear c21
        try clear c22
        try clear c24
        try clear c25
        try clear c27
        try clear Dj
        try clear Dt
        try clear E5 E6 E7 E8
        try clear hcz26_0 hcz26_1 hcz26_2 hcz26_3
        try clear J2
        try clear Dr
        try clear E4
        try clear E9 Ea Eb Ec
        try clear hfz26_0 hfz26_1 hfz26_2 hfz26_3
        try clear J3
        try clear Db
        try clear Dc
        try clear Dd
        try clear De
        try clear p2
        try clear Ej
        try clear Ek
        obtain ⟨kq, Dl, rfl, HA, Ev, B5, B1, B2, B3, HB⟩ := hcut
        cases kq with
        | zero => exact absurd HA.out (by simp [r38_one.j1])
        | succ Dm =>
         have H := HA.out
         clear HA
         simp only [r38_one.j1] at H
         by_cases L2 : Dl = true
         ·subst L2
          rw [if_pos rfl] at H
          obtain rfl := Option.some.inj H
          go_wp2
          repeat (go_quiet (fail); try go_wp2)
          go_ret
          exact ⟨by first | rfl | (simp [*] <;> rfl), by repeat (first | (with_reducible first | exact HB.out | apply ba_ | apply bn_ | apply bd_ | refine bs_ ?_ Bf.out | refine bs_ ?_ Bj.out | refine bs_ ?_ D3.out) | exact HB.out)⟩
         ·replace L2 := Bool.eq_false_iff.mpr L2
          subst L2
          rw [if_neg (show ¬ (false = true) by decide)] at H
          by_cases L3 : 0 ≤ ((rd_T45 l3 B0).f1)
          ·rw [if_pos L3] at H
           have L4 : decide (0 ≤ ((rd_T45 l3 B0).f1)) = true := decide_eq_true L3
           clear L3
           by_cases L5 : ((rd_T45 l3 B0).f1) < (B4.length : Int)
           ·rw [if_pos L5] at H
            have L6 : decide (((rd_T45 l3 B0).f1) < (B4.length : Int)) = true := decide_eq_true L5
            clear L5
            by_cases J4 : ((rd_T45 l3 B0).f0) = (rd B4 ((rd_T45 l3 B0).f1))
            rw [if_pos J4] at H
            have J5 : (((rd_T45 l3 B0).f0) == (rd B4 ((rd_T45 l3 B0).f1))) = true := beq_iff_eq.mpr J4
            have J6 : (((rd_T45 l3 B0).f0) != (rd B4 ((rd_T45 l3 B0).f1))) = false := bne_eq_false_iff_eq.mpr J4
            clear J4
            by_cases J7 : ((rd_T45 l3 B0).f2) = Bm
            rw [if_pos J7] at H
            have J8 : (((rd_T45 l3 B0).f2) == Bm) = true := beq_iff_eq.mpr J7
            have J9 : (((rd_T45 l3 B0).f2) != Bm) = false := bne_eq_false_iff_eq.mpr J7
            clear J7
            by_cases Jn : (((rd_T45 l3 B0).f3).size : Int) > 16
            ·rw [if_pos Jn] at H
             have Ja : decide (16 < (((rd_T45 l3 B0).f3).size : Int)) = true := decide_eq_true Jn
             have Jb : decide (16 < ((rd_T45 l3 B0).f3).size) = true := decide_eq_true (by omega)
             clear Jn
             obtain rfl := Option.some.inj H
             have Mv := Bh.out
             have Mw := B8.out
             have Mx := Bi.out
             have My := B9.out
             have Ew : wc.cell? ⟨B6, 0, none⟩ = some (.int .i64 ((rd_T45 l3 B0).f0)) := (blk_cell B3.out 0).trans rfl
             have Ex : wc.cell? ⟨B6, 1, none⟩ = some (.int .i64 ((rd_T45 l3 B0).f1)) := (blk_cell B3.out 1).trans rfl
             have Ey : wc.cell? ⟨B6, 2, none⟩ = some (.int .i64 ((rd_T45 l3 B0).f2)) := (blk_cell B3.out 2).trans rfl
             have Ez : wc.cell? ⟨B6, 3, none⟩ = some (.string ((rd_T45 l3 B0).f3)) := (blk_cell B3.out 3).trans rfl
             have F0 := blk_frozen B3.out 0
             have F1 := blk_frozen B3.out 1
             have F2 := blk_frozen B3.out 2
             have F3 := blk_frozen B3.out 3
             have Mz := B7.out
             have O0 := Bc.out
             have L7 := cells_11 B1.out
             have L8 := frozen_11 B1.out
             have D4 : 0 ≤ (((rd_T45 l3 B0).f1) : Int) := of_decide_eq_true (by first | (with_reducible assumption) | assumption)
             have D5 : ((rd_T45 l3 B0).f1) < (B4.length : Int) := of_decide_eq_true (by first | (with_reducible assumption) | assumption)
             obtain ⟨Dk, Dw, Bd⟩ := Kd.at_int Dg.out ((rd_T45 l3 B0).f1) D4 D5
             cases Dw
             replace Bd := (HB.out.cell (World.block_lt_of_cell? w _ Bd)).trans Bd
             replace D4 := eq_true D4
             replace D5 := eq_true D5
             have F4 : wc.cell? ⟨Ba, 0, none⟩ = some (.int .i64 Bm) := (blk_cell B2.out 0).trans rfl
             have F5 : wc.cell? ⟨Ba, 1, none⟩ = some (.string Bp) := (blk_cell B2.out 1).trans rfl
             have F6 : wc.cell? ⟨Ba, 2, none⟩ = some (.slice Df Bk.length D8) := (blk_cell B2.out 2).trans rfl
             have F7 : wc.cell? ⟨Ba, 3, none⟩ = some (.slice D9 Bn.length Da) := (blk_cell B2.out 3).trans rfl
             have F8 := blk_frozen B2.out 0
             have F9 := blk_frozen B2.out 1
             have Fa := blk_frozen B2.out 2
             have Fb := blk_frozen B2.out 3
             go_wp2
             repeat (go_quiet (fail); try go_wp2)
             go_ret
             exact ⟨by first | rfl | (simp [*] <;> rfl), by repeat (first | (with_reducible first | exact HB.out | apply ba_ | apply bn_ | apply bd_ | refine bs_ ?_ Bf.out | refine bs_ ?_ Bj.out | refine bs_ ?_ D3.out) | exact HB.out)⟩
            rw [if_neg Jn] at H
            have Ja : decide (16 < (((rd_T45 l3 B0).f3).size : Int)) = false := decide_eq_false Jn
            have Jb : decide (16 < ((rd_T45 l3 B0).f3).size) = false := decide_eq_false (by omega)
            clear Jn
            obtain ⟨M6, L9, H⟩ := bes_ H
            try dsimp only at H
            by_cases La : M6 = true
            ·subst La
             rw [if_pos rfl] at H
             by_cases Lb : ((rd_T45 l3 B0).f1) < (Bg.length : Int)
             ·rw [if_pos Lb] at H
              have Lc : decide (((rd_T45 l3 B0).f1) < (Bg.length : Int)) = true := decide_eq_true Lb
              clear Lb
              obtain ⟨y410, hy410⟩ : ∃ y_ : List Bool, y_ = (Bg.set (((rd_T45 l3 B0).f1) : Int).toNat true) := ⟨_, rfl⟩
              replace H : (r38_one.l0 Dm l1 l3 ((rd_T45 l3 B0).f1) y410 (wrap64 (B0 + 1)) Bq Br Bs Bt Bu Bv Bw Bx By Bz B4 Bm Bp Bk Bn) = some r := by first | (rw [hy410]; with_reducible exact H) | (have Eg := (Option.bind_some _ _).symm.trans H; rw [hy410]; with_reducible exact Eg) | (have Eg := (Option.bind_some _ _).symm.trans H; with_reducible exact Eg) | with_reducible exact H | (rw [hy410]; exact H) | exact H
              have Ld := am_ hy410
              clear hy410
              have H' := am_ H
              clear H
              have O1 := Bh.out
              have O2 := B8.out
              have O3 := Bi.out
              have O4 := B9.out
              have Fc : wc.cell? ⟨B6, 0, none⟩ = some (.int .i64 ((rd_T45 l3 B0).f0)) := (blk_cell B3.out 0).trans rfl
              have Fd : wc.cell? ⟨B6, 1, none⟩ = some (.int .i64 ((rd_T45 l3 B0).f1)) := (blk_cell B3.out 1).trans rfl
              have Fe : wc.cell? ⟨B6, 2, none⟩ = some (.int .i64 ((rd_T45 l3 B0).f2)) := (blk_cell B3.out 2).trans rfl
              have Ff : wc.cell? ⟨B6, 3, none⟩ = some (.string ((rd_T45 l3 B0).f3)) := (blk_cell B3.out 3).trans rfl
              have Fg := blk_frozen B3.out 0
              have Fh := blk_frozen B3.out 1
              have Fi := blk_frozen B3.out 2
              have Fj := blk_frozen B3.out 3
              have O5 := B7.out
              have O6 := Bc.out
              have Le := cells_11 B1.out
              have Lf := frozen_11 B1.out
              have D4 : 0 ≤ (((rd_T45 l3 B0).f1) : Int) := of_decide_eq_true (by first | (with_reducible assumption) | assumption)
              have D5 : ((rd_T45 l3 B0).f1) < (B4.length : Int) := of_decide_eq_true (by first | (with_reducible assumption) | assumption)
              obtain ⟨Dk, Dw, Bd⟩ := Kd.at_int Dg.out ((rd_T45 l3 B0).f1) D4 D5
              cases Dw
              replace Bd := (HB.out.cell (World.block_lt_of_cell? w _ Bd)).trans Bd
              replace D4 := eq_true D4
              replace D5 := eq_true D5
              have Fk : wc.cell? ⟨Ba, 0, none⟩ = some (.int .i64 Bm) := (blk_cell B2.out 0).trans rfl
              have Fl : wc.cell? ⟨Ba, 1, none⟩ = some (.string Bp) := (blk_cell B2.out 1).trans rfl
              have Fm : wc.cell? ⟨Ba, 2, none⟩ = some (.slice Df Bk.length D8) := (blk_cell B2.out 2).trans rfl
              have Fn : wc.cell? ⟨Ba, 3, none⟩ = some (.slice D9 Bn.length Da) := (blk_cell B2.out 3).trans rfl
              have Fo := blk_frozen B2.out 0
              have Fp := blk_frozen B2.out 1
              have Fq := blk_frozen B2.out 2
              have Fr := blk_frozen B2.out 3
              have Lg : 0 ≤ (((rd_T45 l3 B0).f1) : Int) := of_decide_eq_true (by first | (with_reducible assumption) | assumption)
              have Lh : (((rd_T45 l3 B0).f1) : Int) < ((Bg.length : Int) : Int) := of_decide_eq_true (by first | (with_reducible assumption) | assumption)
              obtain ⟨Jo, M7, Li, Lj, M8, R1, Lk⟩ := Kd.R_form B5.out (by omega)
              (first | cases Li | (injection Li with ea_ en_ ec_; (first | subst ea_ | (injection ea_ with ea_; subst ea_)); subst ec_; clear en_))
              have M9 := am_ Lj
              have R2 := am_ Lk
              clear Lj M8 Lk
              obtain ⟨Jp, Ma⟩ := Kd.R_celln false B5.out (((rd_T45 l3 B0).f1) : Int) Lg Lh
              replace Lg := eq_true Lg
              replace Lh := eq_true Lh
              go_wp2
              go_quiet (fail)
              go_wp2
              go_quiet ((go_at_call 28; (with_reducible refine (r14_In.calls Dm _ _ l1 ((rd_T45 l3 B0).f0) _ _ ?side1 Eu.out L9.out).mono ?_); (case side1 => repeat (first | exact (Kd.C_below Et.out HB.out) | (with_reducible refine Kd.C_alloc ?_ _) | (with_reducible refine Kd.C_drewN ?_ _) | (with_reducible refine Kd.C_drew ?_))); rintro e w' ⟨rfl, ⟨nd, rfl⟩⟩; (try first | exact ⟨rfl, _, World.drewN_drewN _ _ _⟩ | exact ⟨rfl, _, Eq.trans (World.drewN_drewN _ _ _) (congrArg (World.drewN _) (Nat.add_assoc _ _ _))⟩)))
              go_wp2_with (((with_reducible refine gate_store (t := 4) (p := 81) rfl ?_); (try (rw [drewN_self wc]; generalize hq_ : World.drewN wc _ = wc; replace B5 := am_ (Kd.R_at hq_ B5.out); replace B1 := am_ (blk_at hq_ B1.out); replace B2 := am_ (blk_at hq_ B2.out); replace B3 := am_ (blk_at hq_ B3.out); replace HB := am_ (below_at hq_ HB.out); clear hq_; (try (obtain ⟨O7, O8⟩ := Kd.R_celln false B5.out (((rd_T45 l3 B0).f1) : Int) (of_decide_eq_true (by first | (with_reducible assumption) | assumption)) (of_decide_eq_true (by first | (with_reducible assumption) | assumption)))); (try (have Jq := Kd.R_putg B5.out (((rd_T45 l3 B0).f1) : Int) true)))); refine store_event (t := 4) (p := 81) (v := ?vo_w52) (w1 := (wc.setCell ⟨Jo, (((rd_T45 l3 B0).f1) : Int).toNat, none⟩ (.bool true))) ?hg ?ho ?hn ?hr ?_; (case ho => rfl); (case hg => rfl); (case hn => rfl); (case hr => first | (go_simp; done) | (go_simp; rfl)); intro w52 hw; have hg : wc.grownBy w52 (some Jo) := (by rw [hw]; exact Jq.2); have hp_ : Kd.R Kd.bool 4 w52 w.heap.size (fun _ => True) (.slice (some ⟨Jo, 0, none⟩) Bg.length M7) y410 := (by rw [hw, Ld.out]; exact Jq.1); clear Jq; replace B1 := am_ (blk_grown (g := Bl) (o := .cells #[.int .i64 Bq, .int .i64 Br, .int .i64 Bs, .int .i64 Bt, .int .i64 Bu, .int .i64 Bv, .int .i64 Bw, .int .i64 Bx, .int .i64 By, .int .i64 Bz, .slice (some Dk) B4.length D1] 24 (0, 0)) (by (with_reducible repeat (first | apply kn_ | apply kd_ | apply ka_)); exact B1.out) hg (Kd.R_ne B5.out B1.out (by decide))); replace B2 := am_ (blk_grown (g := Ba) (o := .cells #[.int .i64 Bm, .string Bp, .slice Df Bk.length D8, .slice D9 Bn.length Da] 32 (0, 0)) (by (with_reducible repeat (first | apply kn_ | apply kd_ | apply ka_)); exact B2.out) hg (Kd.R_ne B5.out B2.out (by decide))); replace B3 := am_ (blk_grown (g := B6) (o := .cells #[.int .i64 ((rd_T45 l3 B0).f0), .int .i64 ((rd_T45 l3 B0).f1), .int .i64 ((rd_T45 l3 B0).f2), .string ((rd_T45 l3 B0).f3)] 45 (0, 0)) (by (with_reducible repeat (first | apply kn_ | apply kd_ | apply ka_)); exact B3.out) hg (Kd.R_ne B5.out B3.out (by decide))); replace B5 := am_ (hp_); replace HB := am_ ((by rw [hw]; exact below_set (HB.out) M9.out : Below w.heap.size w w52)); clear hg hw hp_))
              go_roundg Dm
              case measure => have := Es.out; have := Ev.out; omega
              case rel => exact ⟨(((rd_T45 l3 B0).f1)), (y410), (wrap64 (B0 + 1)), (by first | rfl | (simp; done) | (simp [*]; done)), (by first | rfl | (simp; done) | (simp [*]; done)), H', ⟨by have := Es.out; have := Ev.out; omega⟩, ⟨by (with_reducible repeat (first | apply Kd.R_alloc | apply Kd.R_drewN | apply Kd.R_drew)); exact B5.out⟩, ⟨by (with_reducible repeat (first | apply kn_ | apply kd_ | apply ka_)); exact B1.out⟩, ⟨by (with_reducible repeat (first | apply kn_ | apply kd_ | apply ka_)); exact B2.out⟩, ⟨by repeat (first | (with_reducible first | exact HB.out | apply ba_ | apply bn_ | apply bd_ | refine bs_ ?_ Bf.out | refine bs_ ?_ Bj.out | refine bs_ ?_ D3.out) | exact HB.out)⟩⟩
             ·rw [if_neg Lb] at H
              exact absurd H (by simp)
            replace La := Bool.eq_false_iff.mpr La
            subst La
            rw [if_neg (show ¬ (false = true) by decide)] at H
            by_cases Ll : 0 ≤ ((rd_T45 l3 B0).f0)
            rw [if_pos Ll] at H
            have Lm : decide (0 ≤ ((rd_T45 l3 B0).f0)) = true := decide_eq_true Ll
            clear Ll
            by_cases Ln : ((rd_T45 l3 B0).f0) < (Bk.length : Int)
            rw [if_pos Ln] at H
            have Lo : decide (((rd_T45 l3 B0).f0) < (Bk.length : Int)) = true := decide_eq_true Ln
            clear Ln
            by_cases Jc : ((rd_T45 l3 B0).f3).toList = (rdOf ByteArray.empty Bk ((rd_T45 l3 B0).f0)).toList
            ·rw [if_pos Jc] at H
             have Jd : (((rd_T45 l3 B0).f3).toList == (rdOf ByteArray.empty Bk ((rd_T45 l3 B0).f0)).toList) = true := beq_iff_eq.mpr Jc
             have Je : (((rd_T45 l3 B0).f3).toList != (rdOf ByteArray.empty Bk ((rd_T45 l3 B0).f0)).toList) = false := bne_eq_false_iff_eq.mpr Jc
             clear Jc
             by_cases Lp : ((rd_T45 l3 B0).f1) < (Bg.length : Int)
             ·rw [if_pos Lp] at H
              have Lq : decide (((rd_T45 l3 B0).f1) < (Bg.length : Int)) = true := decide_eq_true Lp
              clear Lp
              obtain ⟨y412, hy412⟩ : ∃ y_ : List Bool, y_ = (Bg.set (((rd_T45 l3 B0).f1) : Int).toNat true) := ⟨_, rfl⟩
              replace H : (r38_one.l0 Dm l1 l3 ((rd_T45 l3 B0).f1) y412 (wrap64 (B0 + 1)) Bq Br Bs Bt Bu Bv Bw Bx By Bz B4 Bm Bp Bk Bn) = some r := by first | (rw [hy412]; with_reducible exact H) | (have Eg := (Option.bind_some _ _).symm.trans H; rw [hy412]; with_reducible exact Eg) | (have Eg := (Option.bind_some _ _).symm.trans H; with_reducible exact Eg) | with_reducible exact H | (rw [hy412]; exact H) | exact H
              have Jf := am_ hy412
              clear hy412
              have H' := am_ H
              clear H
              have O9 := Bh.out
              have Oa := B8.out
              have Ob := Bi.out
              have Oc := B9.out
              have Fs : wc.cell? ⟨B6, 0, none⟩ = some (.int .i64 ((rd_T45 l3 B0).f0)) := (blk_cell B3.out 0).trans rfl
              have Ft : wc.cell? ⟨B6, 1, none⟩ = some (.int .i64 ((rd_T45 l3 B0).f1)) := (blk_cell B3.out 1).trans rfl
              have Fu : wc.cell? ⟨B6, 2, none⟩ = some (.int .i64 ((rd_T45 l3 B0).f2)) := (blk_cell B3.out 2).trans rfl
              have Fv : wc.cell? ⟨B6, 3, none⟩ = some (.string ((rd_T45 l3 B0).f3)) := (blk_cell B3.out 3).trans rfl
              have Fw := blk_frozen B3.out 0
              have Fx := blk_frozen B3.out 1
              have Fy := blk_frozen B3.out 2
              have Fz := blk_frozen B3.out 3
              have Od := B7.out
              have Oe := Bc.out
              have Lr := cells_11 B1.out
              have Ls := frozen_11 B1.out
              have D4 : 0 ≤ (((rd_T45 l3 B0).f1) : Int) := of_decide_eq_true (by first | (with_reducible assumption) | assumption)
              have D5 : ((rd_T45 l3 B0).f1) < (B4.length : Int) := of_decide_eq_true (by first | (with_reducible assumption) | assumption)
              obtain ⟨Dk, Dw, Bd⟩ := Kd.at_int Dg.out ((rd_T45 l3 B0).f1) D4 D5
              cases Dw
              replace Bd := (HB.out.cell (World.block_lt_of_cell? w _ Bd)).trans Bd
              replace D4 := eq_true D4
              replace D5 := eq_true D5
              have G0 : wc.cell? ⟨Ba, 0, none⟩ = some (.int .i64 Bm) := (blk_cell B2.out 0).trans rfl
              have G1 : wc.cell? ⟨Ba, 1, none⟩ = some (.string Bp) := (blk_cell B2.out 1).trans rfl
              have G2 : wc.cell? ⟨Ba, 2, none⟩ = some (.slice Df Bk.length D8) := (blk_cell B2.out 2).trans rfl
              have G3 : wc.cell? ⟨Ba, 3, none⟩ = some (.slice D9 Bn.length Da) := (blk_cell B2.out 3).trans rfl
              have G4 := blk_frozen B2.out 0
              have G5 := blk_frozen B2.out 1
              have G6 := blk_frozen B2.out 2
              have G7 := blk_frozen B2.out 3
              iterate 8 (go_wp2_with (first | (go_at_call 28; (with_reducible refine (r14_In.calls Dm _ _ l1 ((rd_T45 l3 B0).f0) _ _ ?side1 Eu.out L9.out).mono ?_); (case side1 => repeat (first | exact (Kd.C_below Et.out HB.out) | (with_reducible refine Kd.C_alloc ?_ _) | (with_reducible refine Kd.C_drewN ?_ _) | (with_reducible refine Kd.C_drew ?_))); rintro e w' ⟨rfl, ⟨nd, rfl⟩⟩; (try first | exact ⟨rfl, _, World.drewN_drewN _ _ _⟩ | exact ⟨rfl, _, Eq.trans (World.drewN_drewN _ _ _) (congrArg (World.drewN _) (Nat.add_assoc _ _ _))⟩); have D6 : 0 ≤ (((rd_T45 l3 B0).f0) : Int) := of_decide_eq_true (by first | (with_reducible assumption) | assumption); have D7 : ((rd_T45 l3 B0).f0) < (Bk.length : Int) := of_decide_eq_true (by first | (with_reducible assumption) | assumption); obtain ⟨Dv, Dx, Be⟩ := Kd.at_string E3.out ((rd_T45 l3 B0).f0) D6 D7; cases Dx; replace Be := (HB.out.cell (World.block_lt_of_cell? w _ Be)).trans Be; replace D6 := eq_true D6; replace D7 := eq_true D7; have G8 : 0 ≤ (((rd_T45 l3 B0).f1) : Int) := of_decide_eq_true (by first | (with_reducible assumption) | assumption); have G9 : (((rd_T45 l3 B0).f1) : Int) < ((Bg.length : Int) : Int) := of_decide_eq_true (by first | (with_reducible assumption) | assumption); obtain ⟨Dy, Jr, El, Em, Js, Mb, En⟩ := Kd.R_form B5.out (by omega); (first | cases El | (injection El with ea_ en_ ec_; (first | subst ea_ | (injection ea_ with ea_; subst ea_)); subst ec_; clear en_)); have Jt := am_ Em; have Mc := am_ En; clear Em Js En; obtain ⟨Eo, Ju⟩ := Kd.R_celln false B5.out (((rd_T45 l3 B0).f1) : Int) G8 G9; replace G8 := eq_true G8; replace G9 := eq_true G9; obtain ⟨Ep, Er⟩ := Kd.R_celln false B5.out (((rd_T45 l3 B0).f1) : Int) (of_decide_eq_true (by first | (with_reducible assumption) | assumption)) (of_decide_eq_true (by first | (with_reducible assumption) | assumption)); have Dn := Kd.R_putg B5.out (((rd_T45 l3 B0).f1) : Int) true) | ((with_reducible refine gate_store (t := 4) (p := 81) rfl ?_); (try (rw [drewN_self wc]; generalize hq_ : World.drewN wc _ = wc; replace B5 := am_ (Kd.R_at hq_ B5.out); replace B1 := am_ (blk_at hq_ B1.out); replace B2 := am_ (blk_at hq_ B2.out); replace B3 := am_ (blk_at hq_ B3.out); replace HB := am_ (below_at hq_ HB.out); clear hq_; (try (obtain ⟨Ep, Er⟩ := Kd.R_celln false B5.out (((rd_T45 l3 B0).f1) : Int) (of_decide_eq_true (by first | (with_reducible assumption) | assumption)) (of_decide_eq_true (by first | (with_reducible assumption) | assumption)))); (try (have Dn := Kd.R_putg B5.out (((rd_T45 l3 B0).f1) : Int) true)))); refine store_event (t := 4) (p := 81) (v := ?vo_w65) (w1 := (wc.setCell ⟨Dy, (((rd_T45 l3 B0).f1) : Int).toNat, none⟩ (.bool true))) ?hg ?ho ?hn ?hr ?_; (case ho => rfl); (case hg => rfl); (case hn => rfl); (case hr => first | (go_simp; done) | (go_simp; rfl)); intro w65 hw; have hg : wc.grownBy w65 (some Dy) := (by rw [hw]; exact Dn.2); have hp_ : Kd.R Kd.bool 4 w65 w.heap.size (fun _ => True) (.slice (some ⟨Dy, 0, none⟩) Bg.length Jr) y412 := (by rw [hw, Jf.out]; exact Dn.1); clear Dn; replace B1 := am_ (blk_grown (g := Bl) (o := .cells #[.int .i64 Bq, .int .i64 Br, .int .i64 Bs, .int .i64 Bt, .int .i64 Bu, .int .i64 Bv, .int .i64 Bw, .int .i64 Bx, .int .i64 By, .int .i64 Bz, .slice (some Dk) B4.length D1] 24 (0, 0)) (by (with_reducible repeat (first | apply kn_ | apply kd_ | apply ka_)); exact B1.out) hg (Kd.R_ne B5.out B1.out (by decide))); replace B2 := am_ (blk_grown (g := Ba) (o := .cells #[.int .i64 Bm, .string Bp, .slice (some Dv) Bk.length D8, .slice D9 Bn.length Da] 32 (0, 0)) (by (with_reducible repeat (first | apply kn_ | apply kd_ | apply ka_)); exact B2.out) hg (Kd.R_ne B5.out B2.out (by decide))); replace B3 := am_ (blk_grown (g := B6) (o := .cells #[.int .i64 ((rd_T45 l3 B0).f0), .int .i64 ((rd_T45 l3 B0).f1), .int .i64 ((rd_T45 l3 B0).f2), .string ((rd_T45 l3 B0).f3)] 45 (0, 0)) (by (with_reducible repeat (first | apply kn_ | apply kd_ | apply ka_)); exact B3.out) hg (Kd.R_ne B5.out B3.out (by decide))); replace B5 := am_ (hp_); replace HB := am_ ((by rw [hw]; exact below_set (HB.out) Jt.out : Below w.heap.size w w65)); clear hg hw hp_)); try (go_quiet (first | (go_at_call 28; (with_reducible refine (r14_In.calls Dm _ _ l1 ((rd_T45 l3 B0).f0) _ _ ?side1 Eu.out L9.out).mono ?_); (case side1 => repeat (first | exact (Kd.C_below Et.out HB.out) | (with_reducible refine Kd.C_alloc ?_ _) | (with_reducible refine Kd.C_drewN ?_ _) | (with_reducible refine Kd.C_drew ?_))); rintro e w' ⟨rfl, ⟨nd, rfl⟩⟩; (try first | exact ⟨rfl, _, World.drewN_drewN _ _ _⟩ | exact ⟨rfl, _, Eq.trans (World.drewN_drewN _ _ _) (congrArg (World.drewN _) (Nat.add_assoc _ _ _))⟩); have D6 : 0 ≤ (((rd_T45 l3 B0).f0) : Int) := of_decide_eq_true (by first | (with_reducible assumption) | assumption); have D7 : ((rd_T45 l3 B0).f0) < (Bk.length : Int) := of_decide_eq_true (by first | (with_reducible assumption) | assumption); obtain ⟨Dv, Dx, Be⟩ := Kd.at_string E3.out ((rd_T45 l3 B0).f0) D6 D7; cases Dx; replace Be := (HB.out.cell (World.block_lt_of_cell? w _ Be)).trans Be; replace D6 := eq_true D6; replace D7 := eq_true D7; have G8 : 0 ≤ (((rd_T45 l3 B0).f1) : Int) := of_decide_eq_true (by first | (with_reducible assumption) | assumption); have G9 : (((rd_T45 l3 B0).f1) : Int) < ((Bg.length : Int) : Int) := of_decide_eq_true (by first | (with_reducible assumption) | assumption); obtain ⟨Dy, Jr, El, Em, Js, Mb, En⟩ := Kd.R_form B5.out (by omega); (first | cases El | (injection El with ea_ en_ ec_; (first | subst ea_ | (injection ea_ with ea_; subst ea_)); subst ec_; clear en_)); have Jt := am_ Em; have Mc := am_ En; clear Em Js En; obtain ⟨Eo, Ju⟩ := Kd.R_celln false B5.out (((rd_T45 l3 B0).f1) : Int) G8 G9; replace G8 := eq_true G8; replace G9 := eq_true G9; obtain ⟨Ep, Er⟩ := Kd.R_celln false B5.out (((rd_T45 l3 B0).f1) : Int) (of_decide_eq_true (by first | (with_reducible assumption) | assumption)) (of_decide_eq_true (by first | (with_reducible assumption) | assumption)); have Dn := Kd.R_putg B5.out (((rd_T45 l3 B0).f1) : Int) true) | ((with_reducible refine gate_store (t := 4) (p := 81) rfl ?_); (try (rw [drewN_self wc]; generalize hq_ : World.drewN wc _ = wc; replace B5 := am_ (Kd.R_at hq_ B5.out); replace B1 := am_ (blk_at hq_ B1.out); replace B2 := am_ (blk_at hq_ B2.out); replace B3 := am_ (blk_at hq_ B3.out); replace HB := am_ (below_at hq_ HB.out); clear hq_; (try (obtain ⟨Ep, Er⟩ := Kd.R_celln false B5.out (((rd_T45 l3 B0).f1) : Int) (of_decide_eq_true (by first | (with_reducible assumption) | assumption)) (of_decide_eq_true (by first | (with_reducible assumption) | assumption)))); (try (have Dn := Kd.R_putg B5.out (((rd_T45 l3 B0).f1) : Int) true)))); refine store_event (t := 4) (p := 81) (v := ?vo_w65) (w1 := (wc.setCell ⟨Dy, (((rd_T45 l3 B0).f1) : Int).toNat, none⟩ (.bool true))) ?hg ?ho ?hn ?hr ?_; (case ho => rfl); (case hg => rfl); (case hn => rfl); (case hr => first | (go_simp; done) | (go_simp; rfl)); intro w65 hw; have hg : wc.grownBy w65 (some Dy) := (by rw [hw]; exact Dn.2); have hp_ : Kd.R Kd.bool 4 w65 w.heap.size (fun _ => True) (.slice (some ⟨Dy, 0, none⟩) Bg.length Jr) y412 := (by rw [hw, Jf.out]; exact Dn.1); clear Dn; replace B1 := am_ (blk_grown (g := Bl) (o := .cells #[.int .i64 Bq, .int .i64 Br, .int .i64 Bs, .int .i64 Bt, .int .i64 Bu, .int .i64 Bv, .int .i64 Bw, .int .i64 Bx, .int .i64 By, .int .i64 Bz, .slice (some Dk) B4.length D1] 24 (0, 0)) (by (with_reducible repeat (first | apply kn_ | apply kd_ | apply ka_)); exact B1.out) hg (Kd.R_ne B5.out B1.out (by decide))); replace B2 := am_ (blk_grown (g := Ba) (o := .cells #[.int .i64 Bm, .string Bp, .slice (some Dv) Bk.length D8, .slice D9 Bn.length Da] 32 (0, 0)) (by (with_reducible repeat (first | apply kn_ | apply kd_ | apply ka_)); exact B2.out) hg (Kd.R_ne B5.out B2.out (by decide))); replace B3 := am_ (blk_grown (g := B6) (o := .cells #[.int .i64 ((rd_T45 l3 B0).f0), .int .i64 ((rd_T45 l3 B0).f1), .int .i64 ((rd_T45 l3 B0).f2), .string ((rd_T45 l3 B0).f3)] 45 (0, 0)) (by (with_reducible repeat (first | apply kn_ | apply kd_ | apply ka_)); exact B3.out) hg (Kd.R_ne B5.out B3.out (by decide))); replace B5 := am_ (hp_); replace HB := am_ ((by rw [hw]; exact below_set (HB.out) Jt.out : Below w.heap.size w w65)); clear hg hw hp_))))
              go_roundg Dm
              case measure => have := Es.out; have := Ev.out; omega
              case rel => exact ⟨(((rd_T45 l3 B0).f1)), (y412), (wrap64 (B0 + 1)), (by first | rfl | (simp; done) | (simp [*]; done)), (by first | rfl | (simp; done) | (simp [*]; done)), H', ⟨by have := Es.out; have := Ev.out; omega⟩, ⟨by (with_reducible repeat (first | apply Kd.R_alloc | apply Kd.R_drewN | apply Kd.R_drew)); exact B5.out⟩, ⟨by (with_reducible repeat (first | apply kn_ | apply kd_ | apply ka_)); exact B1.out⟩, ⟨by (with_reducible repeat (first | apply kn_ | apply kd_ | apply ka_)); exact B2.out⟩, ⟨by repeat (first | (with_reducible first | exact HB.out | apply ba_ | apply bn_ | apply bd_ | refine bs_ ?_ Bf.out | refine bs_ ?_ Bj.out | refine bs_ ?_ D3.out) | exact HB.out)⟩⟩
             ·rw [if_neg Lp] at H
              exact absurd H (by simp)
            rw [if_neg Jc] at H
            have Jd : (((rd_T45 l3 B0).f3).toList == (rdOf ByteArray.empty Bk ((rd_T45 l3 B0).f0)).toList) = false := beq_eq_false_iff_ne.mpr Jc
            have Je : (((rd_T45 l3 B0).f3).toList != (rdOf ByteArray.empty Bk ((rd_T45 l3 B0).f0)).toList) = true := bne_iff_ne.mpr Jc
            obtain rfl := Option.some.inj H
            rotate_left
            ·rw [if_neg Ln] at H
             exact absurd H (by simp)
            ·rw [if_neg Ll] at H
             exact absurd H (by simp)
            rw [if_neg J7] at H
            have J8 : (((rd_T45 l3 B0).f2) == Bm) = false := beq_eq_false_iff_ne.mpr J7
            have J9 : (((rd_T45 l3 B0).f2) != Bm) = true := bne_iff_ne.mpr J7
            obtain rfl := Option.some.inj H
            rotate_left
            rw [if_neg J4] at H
            have J5 : (((rd_T45 l3 B0).f0) == (rd B4 ((rd_T45 l3 B0).f1))) = false := beq_eq_false_iff_ne.mpr J4
            have J6 : (((rd_T45 l3 B0).f0) != (rd B4 ((rd_T45 l3 B0).f1))) = true := bne_iff_ne.mpr J4
            obtain rfl := Option.some.inj H
            rotate_left
            all_goals
             have Of := Bh.out
             have Og := B8.out
             have Oh := Bi.out
             have Oi := B9.out
             have Ga : wc.cell? ⟨B6, 0, none⟩ = some (.int .i64 ((rd_T45 l3 B0).f0)) := (blk_cell B3.out 0).trans rfl
             have Gb : wc.cell? ⟨B6, 1, none⟩ = some (.int .i64 ((rd_T45 l3 B0).f1)) := (blk_cell B3.out 1).trans rfl
             have Gc : wc.cell? ⟨B6, 2, none⟩ = some (.int .i64 ((rd_T45 l3 B0).f2)) := (blk_cell B3.out 2).trans rfl
             have Gd : wc.cell? ⟨B6, 3, none⟩ = some (.string ((rd_T45 l3 B0).f3)) := (blk_cell B3.out 3).trans rfl
             have Ge := blk_frozen B3.out 0
             have Gf := blk_frozen B3.out 1
             have Gg := blk_frozen B3.out 2
             have Gh := blk_frozen B3.out 3
             have Oj := B7.out
             have Ok := Bc.out
             have Lt := cells_11 B1.out
             have Lu := frozen_11 B1.out
             have D4 : 0 ≤ (((rd_T45 l3 B0).f1) : Int) := of_decide_eq_true (by first | (with_reducible assumption) | assumption)
             have D5 : ((rd_T45 l3 B0).f1) < (B4.length : Int) := of_decide_eq_true (by first | (with_reducible assumption) | assumption)
             obtain ⟨Dk, Dw, Bd⟩ := Kd.at_int Dg.out ((rd_T45 l3 B0).f1) D4 D5
             cases Dw
             replace Bd := (HB.out.cell (World.block_lt_of_cell? w _ Bd)).trans Bd
             replace D4 := eq_true D4
             replace D5 := eq_true D5
            iterate 2
             focus
              have Gi : wc.cell? ⟨Ba, 0, none⟩ = some (.int .i64 Bm) := (blk_cell B2.out 0).trans rfl
              have Gj : wc.cell? ⟨Ba, 1, none⟩ = some (.string Bp) := (blk_cell B2.out 1).trans rfl
              have Gk : wc.cell? ⟨Ba, 2, none⟩ = some (.slice Df Bk.length D8) := (blk_cell B2.out 2).trans rfl
              have Gl : wc.cell? ⟨Ba, 3, none⟩ = some (.slice D9 Bn.length Da) := (blk_cell B2.out 3).trans rfl
              have Gm := blk_frozen B2.out 0
              have Gp := blk_frozen B2.out 1
              have Gq := blk_frozen B2.out 2
              have Gr := blk_frozen B2.out 3
             rotate_left
            rotate_left 1
            ·iterate 8 (go_wp2_with (first | (go_at_call 28; (with_reducible refine (r14_In.calls Dm _ _ l1 ((rd_T45 l3 B0).f0) _ _ ?side1 Eu.out L9.out).mono ?_); (case side1 => repeat (first | exact (Kd.C_below Et.out HB.out) | (with_reducible refine Kd.C_alloc ?_ _) | (with_reducible refine Kd.C_drewN ?_ _) | (with_reducible refine Kd.C_drew ?_))); rintro e w' ⟨rfl, ⟨nd, rfl⟩⟩; (try first | exact ⟨rfl, _, World.drewN_drewN _ _ _⟩ | exact ⟨rfl, _, Eq.trans (World.drewN_drewN _ _ _) (congrArg (World.drewN _) (Nat.add_assoc _ _ _))⟩); have D6 : 0 ≤ (((rd_T45 l3 B0).f0) : Int) := of_decide_eq_true (by first | (with_reducible assumption) | assumption); have D7 : ((rd_T45 l3 B0).f0) < (Bk.length : Int) := of_decide_eq_true (by first | (with_reducible assumption) | assumption); obtain ⟨Dv, Dx, Be⟩ := Kd.at_string E3.out ((rd_T45 l3 B0).f0) D6 D7; cases Dx; replace Be := (HB.out.cell (World.block_lt_of_cell? w _ Be)).trans Be; replace D6 := eq_true D6; replace D7 := eq_true D7)); try (go_quiet (first | (go_at_call 28; (with_reducible refine (r14_In.calls Dm _ _ l1 ((rd_T45 l3 B0).f0) _ _ ?side1 Eu.out L9.out).mono ?_); (case side1 => repeat (first | exact (Kd.C_below Et.out HB.out) | (with_reducible refine Kd.C_alloc ?_ _) | (with_reducible refine Kd.C_drewN ?_ _) | (with_reducible refine Kd.C_drew ?_))); rintro e w' ⟨rfl, ⟨nd, rfl⟩⟩; (try first | exact ⟨rfl, _, World.drewN_drewN _ _ _⟩ | exact ⟨rfl, _, Eq.trans (World.drewN_drewN _ _ _) (congrArg (World.drewN _) (Nat.add_assoc _ _ _))⟩); have D6 : 0 ≤ (((rd_T45 l3 B0).f0) : Int) := of_decide_eq_true (by first | (with_reducible assumption) | assumption); have D7 : ((rd_T45 l3 B0).f0) < (Bk.length : Int) := of_decide_eq_true (by first | (with_reducible assumption) | assumption); obtain ⟨Dv, Dx, Be⟩ := Kd.at_string E3.out ((rd_T45 l3 B0).f0) D6 D7; cases Dx; replace Be := (HB.out.cell (World.block_lt_of_cell? w _ Be)).trans Be; replace D6 := eq_true D6; replace D7 := eq_true D7))))
             go_ret
             exact ⟨by first | rfl | (simp [*] <;> rfl), by repeat (first | (with_reducible first | exact HB.out | apply ba_ | apply bn_ | apply bd_ | refine bs_ ?_ Bf.out | refine bs_ ?_ Bj.out | refine bs_ ?_ D3.out) | exact HB.out)⟩
            ·go_wp2
             repeat (go_quiet (fail); try go_wp2)
             go_ret
             exact ⟨by first | rfl | (simp [*] <;> rfl), by repeat (first | (with_reducible first | exact HB.out | apply ba_ | apply bn_ | apply bd_ | refine bs_ ?_ Bf.out | refine bs_ ?_ Bj.out | refine bs_ ?_ D3.out) | exact HB.out)⟩
            ·go_wp2
             repeat (go_quiet (fail); try go_wp2)
             go_ret
             exact ⟨by first | rfl | (simp [*] <;> rfl), by repeat (first | (with_reducible first | exact HB.out | apply ba_ | apply bn_ | apply bd_ | refine bs_ ?_ Bf.out | refine bs_ ?_ Bj.out | refine bs_ ?_ D3.out) | exact HB.out)⟩
           ·rw [if_neg L5] at H
            exact absurd H (by simp)
          ·rw [if_neg L3] at H
           exact absurd H (by simp)
      ·rw [if_neg Jy] at H
       exact absurd H (by simp)
     ·rw [if_neg Gw] at H
      have Ei : decide (B0 < (l3.length : Int)) = false := decide_eq_false Gw
      clear Gw
      have H' := am_ H
      clear H
      go_wp2
      repeat (go_quiet (fail); try go_wp2)
      go_loopg [13] k1 (fun kq v13 w' => ∃ (Bb : Int), v13 = .int .i64 Bb ∧ Aside0 (r38_one.l1 kq l1 Bg Bb Bq Br Bs Bt Bu Bv Bw Bx By Bz B4 = some r) ∧ Aside0 (kq ≤ k1) ∧ Aside0 (Kd.R Kd.bool 4 w' w.heap.size (fun _ => True) v404 Bg) ∧ Aside0 (w'.heap[Bl]? = some (.cells #[.int .i64 Bq, .int .i64 Br, .int .i64 Bs, .int .i64 Bt, .int .i64 Bu, .int .i64 Bv, .int .i64 Bw, .int .i64 Bx, .int .i64 By, .int .i64 Bz, (.slice Dh B4.length D1)] 24 (0, 0))) ∧ Aside0 (w'.heap[Ba]? = some (.cells #[.int .i64 Bm, .string Bp, (.slice Df Bk.length D8), (.slice D9 Bn.length Da)] 32 (0, 0))) ∧ Aside0 (Below w.heap.size w w'))
      case atStart => exact ⟨(0), (by first | rfl | (simp; done) | (simp [*]; done)), H', ⟨Nat.le_refl _⟩, ⟨by (with_reducible repeat (first | apply Kd.R_alloc | apply Kd.R_drewN | apply Kd.R_drew)); exact B5.out⟩, ⟨by (with_reducible repeat (first | apply kn_ | apply kd_ | apply ka_)); exact B1.out⟩, ⟨by (with_reducible repeat (first | apply kn_ | apply kd_ | apply ka_)); exact B2.out⟩, ⟨by repeat (first | (with_reducible first | exact HB.out | apply ba_ | apply bn_ | apply bd_ | refine bs_ ?_ Bf.out | refine bs_ ?_ Bj.out) | exact HB.out)⟩⟩
      case round =>
       clear H'
       try clear c1
       try clear c2
       try clear p2
       try clear c3
       try clear c4
       try clear p4
       try clear q4
       try clear hx4
       try clear hf4
       try clear c5
       try clear Jh
       try clear Ji
       try clear p5
       try clear q5
       try clear hx5
       try clear hf5
       try clear c6
       try clear Jj
       try clear Jk
       try clear p6
       try clear c7
       try clear c8
       try clear c9
       try clear Gw
       try clear Ei
       try clear Jy
       try clear Gx
       try clear c17
       try clear c18
       try clear Jm
       try clear Du
       try clear c21
       try clear c22
       try clear c24
       try clear c25
       try clear c27
       try clear L2
       try clear L3
       try clear L4
       try clear L5
       try clear L6
       try clear J4
       try clear J5
       try clear J6
       try clear J7
       try clear J8
       try clear J9
       try clear Jn
       try clear Ja
       try clear Jb
       try clear c35
       try clear c36
       try clear c38
       try clear p40
       try clear q40
       try clear hx40
       try clear p41
       try clear q41
       try clear hx41
       try clear La
       try clear Lb
       try clear Lc
       try clear Lg
       try clear Lh
       try clear hx44
       try clear hf44
       try clear c45
       try clear c46
       try clear c48
       try clear Ll
       try clear Lm
       try clear Ln
       try clear Lo
       try clear Jc
       try clear Jd
       try clear Je
       try clear Lp
       try clear Lq
       try clear G8
       try clear G9
       try clear hx57
       try clear hf57
       try clear c58
       try clear c59
       try clear c61
       try clear p64
       try clear c66
       try clear c67
       try clear c69
       try clear c72
       try clear c73
       try clear c75
       try clear c78
       try clear c79
       try clear c81
       try clear Dj
       try clear Dt
       try clear E5 E6 E7 E8
       try clear hcz26_0 hcz26_1 hcz26_2 hcz26_3
       try clear J2
       try clear Ew Ex Ey Ez
       try clear L7
       try clear F4 F5 F6 F7
       try clear Fc Fd Fe Ff
       try clear Le
       try clear Fk Fl Fm Fn
       try clear Fs Ft Fu Fv
       try clear Lr
       try clear G0 G1 G2 G3
       try clear Ga Gb Gc Gd
       try clear Lt
       try clear Gi Gj Gk Gl
       try clear hcz74_0 hcz74_1 hcz74_2 hcz74_3
       try clear hcz76
       try clear hcz77_0 hcz77_1 hcz77_2 hcz77_3
       try clear hcz80_0 hcz80_1 hcz80_2 hcz80_3
       try clear hcz82
       try clear Dr
       try clear E4
       try clear E9 Ea Eb Ec
       try clear hfz26_0 hfz26_1 hfz26_2 hfz26_3
       try clear J3
       try clear F0 F1 F2 F3
       try clear L8
       try clear F8 F9 Fa Fb
       try clear Fg Fh Fi Fj
       try clear Lf
       try clear Fo Fp Fq Fr
       try clear Fw Fx Fy Fz
       try clear Ls
       try clear G4 G5 G6 G7
       try clear Ge Gf Gg Gh
       try clear Lu
       try clear Gm Gp Gq Gr
       try clear hfz74_0 hfz74_1 hfz74_2 hfz74_3
       try clear hfz76
       try clear hfz77_0 hfz77_1 hfz77_2 hfz77_3
       try clear hfz80_0 hfz80_1 hfz80_2 hfz80_3
       try clear hfz82
       try clear Db
       try clear Dc
       try clear Dd
       try clear De
       try clear Bd
       try clear Be
       try clear Jp
       try clear Eo
       try clear p2
       try clear p4
       try clear Ej
       try clear D4
       try clear D6
       try clear Lg
       try clear G8
       try clear q4
       try clear Ek
       try clear D5
       try clear D7
       try clear Lh
       try clear G9
       obtain ⟨Bb, rfl, HA, Ly, B5, B1, B2, HB⟩ := hrel
       cases gk with
       | zero => exact absurd HA.out (by simp [r38_one.l1])
       | succ k2 =>
        have H := HA.out
        clear HA
        simp only [r38_one.l1] at H
        by_cases Jz : Bb < (B4.length : Int)
        ·rw [if_pos Jz] at H
         have Lv : decide (Bb < (B4.length : Int)) = true := decide_eq_true Jz
         clear Jz
         by_cases Lz : 0 ≤ Bb
         ·rw [if_pos Lz] at H
          have Ol : decide (0 ≤ Bb) = true := decide_eq_true Lz
          clear Lz
          by_cases M0 : Bb < (Bg.length : Int)
          ·rw [if_pos M0] at H
           have Om : decide (Bb < (Bg.length : Int)) = true := decide_eq_true M0
           clear M0
           obtain ⟨bq86, hbq86⟩ : ∃ b_ : Bool, b_ = (rdOf false Bg Bb) := ⟨_, rfl⟩
           replace H : (if bq86 = true then (r38_one.l1 k2 l1 Bg (wrap64 (Bb + 1)) Bq Br Bs Bt Bu Bv Bw Bx By Bz B4) else ((r14_In.f k2 l1 (rd B4 Bb)).bind fun Jv => (if Jv = true then (r38_one.l1 k2 l1 Bg (wrap64 (Bb + 1)) Bq Br Bs Bt Bu Bv Bw Bx By Bz B4) else (some 10)))) = some r := by rw [← hbq86] at H; exact H
           have Jg := am_ hbq86
           clear hbq86
           by_cases M1 : bq86 = true
           subst M1
           rw [if_pos rfl] at H
           rotate_left
           replace M1 := Bool.eq_false_iff.mpr M1
           subst M1
           rw [if_neg (show ¬ (false = true) by decide)] at H
           obtain ⟨Jv, M2, H⟩ := bes_ H
           try dsimp only at H
           by_cases M3 : Jv = true
           subst M3
           rw [if_pos rfl] at H
           rotate_left
           ·replace M3 := Bool.eq_false_iff.mpr M3
            subst M3
            rw [if_neg (show ¬ (false = true) by decide)] at H
            obtain rfl := Option.some.inj H
            have On := B7.out
            have Oo := Bc.out
            have Op := cells_11 B1.out
            have Oq := frozen_11 B1.out
            obtain ⟨R3, R4, Md⟩ := Kd.R_slice B5.out
            subst Md
            have Dz : 0 ≤ (Bb : Int) := of_decide_eq_true (by first | (with_reducible assumption) | assumption)
            have E0 : Bb < (Bg.length : Int) := of_decide_eq_true (by first | (with_reducible assumption) | assumption)
            obtain ⟨Lw, Jw, Do⟩ := Kd.at_bool (Kd.R_reads' B5.out).2.2 Bb Dz E0
            (try rw [← Jg.out] at Do)
            cases Jw
            replace Dz := eq_true Dz
            replace E0 := eq_true E0
            have E1 : 0 ≤ (Bb : Int) := of_decide_eq_true (by first | (with_reducible assumption) | assumption)
            have E2 : Bb < (B4.length : Int) := of_decide_eq_true (by first | (with_reducible assumption) | assumption)
            obtain ⟨Lx, Jx, D0⟩ := Kd.at_int Dg.out Bb E1 E2
            cases Jx
            replace D0 := (HB.out.cell (World.block_lt_of_cell? w _ D0)).trans D0
            replace E1 := eq_true E1
            replace E2 := eq_true E2
            iterate 8 (go_wp2_with (first | (go_at_call 28; (with_reducible refine (r14_In.calls k2 _ _ l1 (rd B4 Bb) _ _ ?side1 Eu.out M2.out).mono ?_); (case side1 => repeat (first | exact (Kd.C_below Et.out HB.out) | (with_reducible refine Kd.C_alloc ?_ _) | (with_reducible refine Kd.C_drewN ?_ _) | (with_reducible refine Kd.C_drew ?_))); rintro e w' ⟨rfl, ⟨nd, rfl⟩⟩; (try first | exact ⟨rfl, _, World.drewN_drewN _ _ _⟩ | exact ⟨rfl, _, Eq.trans (World.drewN_drewN _ _ _) (congrArg (World.drewN _) (Nat.add_assoc _ _ _))⟩))); try (go_quiet (first | (go_at_call 28; (with_reducible refine (r14_In.calls k2 _ _ l1 (rd B4 Bb) _ _ ?side1 Eu.out M2.out).mono ?_); (case side1 => repeat (first | exact (Kd.C_below Et.out HB.out) | (with_reducible refine Kd.C_alloc ?_ _) | (with_reducible refine Kd.C_drewN ?_ _) | (with_reducible refine Kd.C_drew ?_))); rintro e w' ⟨rfl, ⟨nd, rfl⟩⟩; (try first | exact ⟨rfl, _, World.drewN_drewN _ _ _⟩ | exact ⟨rfl, _, Eq.trans (World.drewN_drewN _ _ _) (congrArg (World.drewN _) (Nat.add_assoc _ _ _))⟩)))))
            go_ret
            exact ⟨by first | rfl | (simp [*] <;> rfl), by repeat (first | (with_reducible first | exact HB.out | apply ba_ | apply bn_ | apply bd_ | refine bs_ ?_ Bf.out | refine bs_ ?_ Bj.out) | exact HB.out)⟩
           all_goals
            have H' := am_ H
            clear H
            have Or := B7.out
            have Os := Bc.out
            have Ot := cells_11 B1.out
            have Ou := frozen_11 B1.out
            obtain ⟨R5, R6, Me⟩ := Kd.R_slice B5.out
            subst Me
            have Dz : 0 ≤ (Bb : Int) := of_decide_eq_true (by first | (with_reducible assumption) | assumption)
            have E0 : Bb < (Bg.length : Int) := of_decide_eq_true (by first | (with_reducible assumption) | assumption)
            obtain ⟨Lw, Jw, Do⟩ := Kd.at_bool (Kd.R_reads' B5.out).2.2 Bb Dz E0
            (try rw [← Jg.out] at Do)
            cases Jw
            replace Dz := eq_true Dz
            replace E0 := eq_true E0
           ·go_wp2
            repeat (go_quiet (fail); try go_wp2)
            go_roundg k2
            case measure => have := Es.out; have := Ly.out; omega
            case rel => exact ⟨(wrap64 (Bb + 1)), (by first | rfl | (simp; done) | (simp [*]; done)), H', ⟨by have := Es.out; have := Ly.out; omega⟩, ⟨by (with_reducible repeat (first | apply Kd.R_alloc | apply Kd.R_drewN | apply Kd.R_drew)); exact B5.out⟩, ⟨by (with_reducible repeat (first | apply kn_ | apply kd_ | apply ka_)); exact B1.out⟩, ⟨by (with_reducible repeat (first | apply kn_ | apply kd_ | apply ka_)); exact B2.out⟩, ⟨by repeat (first | (with_reducible first | exact HB.out | apply ba_ | apply bn_ | apply bd_ | refine bs_ ?_ Bf.out | refine bs_ ?_ Bj.out) | exact HB.out)⟩⟩
           ·have E1 : 0 ≤ (Bb : Int) := of_decide_eq_true (by first | (with_reducible assumption) | assumption)
            have E2 : Bb < (B4.length : Int) := of_decide_eq_true (by first | (with_reducible assumption) | assumption)
            obtain ⟨Lx, Jx, D0⟩ := Kd.at_int Dg.out Bb E1 E2
            cases Jx
            replace D0 := (HB.out.cell (World.block_lt_of_cell? w _ D0)).trans D0
            replace E1 := eq_true E1
            replace E2 := eq_true E2
            iterate 8 (go_wp2_with (first | (go_at_call 28; (with_reducible refine (r14_In.calls k2 _ _ l1 (rd B4 Bb) _ _ ?side1 Eu.out M2.out).mono ?_); (case side1 => repeat (first | exact (Kd.C_below Et.out HB.out) | (with_reducible refine Kd.C_alloc ?_ _) | (with_reducible refine Kd.C_drewN ?_ _) | (with_reducible refine Kd.C_drew ?_))); rintro e w' ⟨rfl, ⟨nd, rfl⟩⟩; (try first | exact ⟨rfl, _, World.drewN_drewN _ _ _⟩ | exact ⟨rfl, _, Eq.trans (World.drewN_drewN _ _ _) (congrArg (World.drewN _) (Nat.add_assoc _ _ _))⟩))); try (go_quiet (first | (go_at_call 28; (with_reducible refine (r14_In.calls k2 _ _ l1 (rd B4 Bb) _ _ ?side1 Eu.out M2.out).mono ?_); (case side1 => repeat (first | exact (Kd.C_below Et.out HB.out) | (with_reducible refine Kd.C_alloc ?_ _) | (with_reducible refine Kd.C_drewN ?_ _) | (with_reducible refine Kd.C_drew ?_))); rintro e w' ⟨rfl, ⟨nd, rfl⟩⟩; (try first | exact ⟨rfl, _, World.drewN_drewN _ _ _⟩ | exact ⟨rfl, _, Eq.trans (World.drewN_drewN _ _ _) (congrArg (World.drewN _) (Nat.add_assoc _ _ _))⟩)))))
            go_roundg k2
            case measure => have := Es.out; have := Ly.out; omega
            case rel => exact ⟨(wrap64 (Bb + 1)), (by first | rfl | (simp; done) | (simp [*]; done)), H', ⟨by have := Es.out; have := Ly.out; omega⟩, ⟨by (with_reducible repeat (first | apply Kd.R_alloc | apply Kd.R_drewN | apply Kd.R_drew)); exact B5.out⟩, ⟨by (with_reducible repeat (first | apply kn_ | apply kd_ | apply ka_)); exact B1.out⟩, ⟨by (with_reducible repeat (first | apply kn_ | apply kd_ | apply ka_)); exact B2.out⟩, ⟨by repeat (first | (with_reducible first | exact HB.out | apply ba_ | apply bn_ | apply bd_ | refine bs_ ?_ Bf.out | refine bs_ ?_ Bj.out) | exact HB.out)⟩⟩
          ·rw [if_neg M0] at H
           exact absurd H (by simp)
         ·rw [if_neg Lz] at H
          exact absurd H (by simp)
        ·rw [if_neg Jz] at H
         have Lv : decide (Bb < (B4.length : Int)) = false := decide_eq_false Jz
         clear Jz
         obtain rfl := Option.some.inj H
         have Ov := B7.out
         have Ow := Bc.out
         have Mf := cells_11 B1.out
         have Mg := frozen_11 B1.out
         go_wp2
         repeat (go_quiet (fail); try go_wp2)
         go_ret
         exact ⟨by first | rfl | (simp [*] <;> rfl), by repeat (first | (with_reducible first | exact HB.out | apply ba_ | apply bn_ | apply bd_ | refine bs_ ?_ Bf.out | refine bs_ ?_ Bj.out) | exact HB.out)⟩
  ·rw [if_neg c6] at H
   exact absurd H (by simp)
 ·rw [if_neg c5] at H
  exact absurd H (by simp)
end Go.Proofs.Ytdnccjlfongdeaa.Gn
