import Derived.Test.YtdnccjlfongdeaaZRoundOnlyGn0
import Derived.Test.YtdnccjlfongdeaaZRoundOnlyGn2
import Derived.Test.YtdnccjlfongdeaaZRoundOnlyGn13
namespace Go.Proofs.Ytdnccjlfongdeaa.Gn
open Go.RowKit Go.Proofs.YtdnccjlfongdeaaW.PrintWords Go.Proofs.YtdnccjlfongdeaaW.PrintLast Go.Proofs.YtdnccjlfongdeaaW.PrintMore
attribute [local go_sem] max2_int min2_int max_two min_two max_three min_three max_four min_four   -- for this text's walks alone
set_option linter.unusedVariables false
set_option linter.unusedSimpArgs false
mutual
def r38_Same.j0 : Nat → Bool → Int → ByteArray → List ByteArray → List (List (S45)) → Int → ByteArray → List ByteArray → List (List (S45)) → Option (Bool)
 | 0, _, _, _, _, _, _, _, _, _ => none
 | k + 1, B9, B4, B5, B0, B1, B6, B7, B2, B3 => if B9 = true then (some false) else (r38_Same.l0 k 0 B4 B5 B0 B1 B6 B7 B2 B3)
def r38_Same.l0 : Nat → Int → Int → ByteArray → List ByteArray → List (List (S45)) → Int → ByteArray → List ByteArray → List (List (S45)) → Option (Bool)
 | 0, _, _, _, _, _, _, _, _, _ => none
 | k + 1, x5, B4, B5, B0, B1, B6, B7, B2, B3 => if x5 < (B0.length : Int) then (if 0 ≤ x5 then (if x5 < (B2.length : Int) then (if (rdOf ByteArray.empty B0 x5).toList = (rdOf ByteArray.empty B2 x5).toList then (r38_Same.l0 k (wrap64 (x5 + 1)) B4 B5 B0 B1 B6 B7 B2 B3) else (some false)) else (none)) else (none)) else (r38_Same.l1 k 0 B4 B5 B0 B1 B6 B7 B2 B3)
def r38_Same.l1 : Nat → Int → Int → ByteArray → List ByteArray → List (List (S45)) → Int → ByteArray → List ByteArray → List (List (S45)) → Option (Bool)
 | 0, _, _, _, _, _, _, _, _, _ => none
 | k + 1, x6, B4, B5, B0, B1, B6, B7, B2, B3 => if x6 < (B1.length : Int) then (if 0 ≤ x6 then (if x6 < (B3.length : Int) then ((r24_Same.f k (rd_L3 B1 x6) (rd_L3 B3 x6)).bind fun B8 => (if B8 = true then (r38_Same.l1 k (wrap64 (x6 + 1)) B4 B5 B0 B1 B6 B7 B2 B3) else (some false))) else (none)) else (none)) else (some true)
end
def r38_Same.f (k : Nat) (B0 : Int) (B1 : ByteArray) (B2 : List ByteArray) (B3 : List (List (S45))) (B4 : Int) (B5 : ByteArray) (B6 : List ByteArray) (B7 : List (List (S45))) : Option (Bool) := if B0 = B4 then (if B1.toList = B5.toList then (if (B2.length : Int) = (B6.length : Int) then (r38_Same.j0 k ((B3.length : Int) != (B7.length : Int)) B0 B1 B2 B3 B4 B5 B6 B7) else (r38_Same.j0 k true B0 B1 B2 B3 B4 B5 B6 B7)) else (r38_Same.j0 k true B0 B1 B2 B3 B4 B5 B6 B7)) else (r38_Same.j0 k true B0 B1 B2 B3 B4 B5 B6 B7)
theorem r38_Same.mono_l : ∀ k, (∀ y0 y1 y2 y3 y4 y5 y6 y7 y8, LeO (r38_Same.j0 k y0 y1 y2 y3 y4 y5 y6 y7 y8) (r38_Same.j0 (k + 1) y0 y1 y2 y3 y4 y5 y6 y7 y8)) ∧ (∀ y0 y1 y2 y3 y4 y5 y6 y7 y8, LeO (r38_Same.l0 k y0 y1 y2 y3 y4 y5 y6 y7 y8) (r38_Same.l0 (k + 1) y0 y1 y2 y3 y4 y5 y6 y7 y8)) ∧ (∀ y0 y1 y2 y3 y4 y5 y6 y7 y8, LeO (r38_Same.l1 k y0 y1 y2 y3 y4 y5 y6 y7 y8) (r38_Same.l1 (k + 1) y0 y1 y2 y3 y4 y5 y6 y7 y8))
 | 0 => ⟨fun _ _ _ _ _ _ _ _ _ r h => by simp [r38_Same.j0] at h, fun _ _ _ _ _ _ _ _ _ r h => by simp [r38_Same.l0] at h, fun _ _ _ _ _ _ _ _ _ r h => by simp [r38_Same.l1] at h⟩
 | k + 1 => by
  obtain ⟨B0, B1, B2⟩ := r38_Same.mono_l k
  refine ⟨?_, ?_, ?_⟩
  ·intro y0 y1 y2 y3 y4 y5 y6 y7 y8
   unfold r38_Same.j0
   repeat' first
   | (with_reducible exact B0 _ _ _ _ _ _ _ _ _)
   | (with_reducible exact B1 _ _ _ _ _ _ _ _ _)
   | (with_reducible exact B2 _ _ _ _ _ _ _ _ _)
   | (with_reducible exact r24_Same.mono _ _ _)
   | (with_reducible exact LeO.refl _)
   | (with_reducible exact LeO.none _)
   | (with_reducible refine LeO.ite ?_ ?_)
   | (with_reducible refine LeO.bind ?_ (fun _ => ?_))
   | exact B0 _ _ _ _ _ _ _ _ _
   | exact B1 _ _ _ _ _ _ _ _ _
   | exact B2 _ _ _ _ _ _ _ _ _
   | exact r24_Same.mono _ _ _
   | exact LeO.none _
   | refine LeO.ite ?_ ?_
   | refine LeO.bind ?_ (fun _ => ?_)
  ·intro y0 y1 y2 y3 y4 y5 y6 y7 y8
   unfold r38_Same.l0
   repeat' first
   | (with_reducible exact B0 _ _ _ _ _ _ _ _ _)
   | (with_reducible exact B1 _ _ _ _ _ _ _ _ _)
   | (with_reducible exact B2 _ _ _ _ _ _ _ _ _)
   | (with_reducible exact r24_Same.mono _ _ _)
   | (with_reducible exact LeO.refl _)
   | (with_reducible exact LeO.none _)
   | (with_reducible refine LeO.ite ?_ ?_)
   | (with_reducible refine LeO.bind ?_ (fun _ => ?_))
   | exact B0 _ _ _ _ _ _ _ _ _
   | exact B1 _ _ _ _ _ _ _ _ _
   | exact B2 _ _ _ _ _ _ _ _ _
   | exact r24_Same.mono _ _ _
   | exact LeO.none _
   | refine LeO.ite ?_ ?_
   | refine LeO.bind ?_ (fun _ => ?_)
  ·intro y0 y1 y2 y3 y4 y5 y6 y7 y8
   unfold r38_Same.l1
   repeat' first
   | (with_reducible exact B0 _ _ _ _ _ _ _ _ _)
   | (with_reducible exact B1 _ _ _ _ _ _ _ _ _)
   | (with_reducible exact B2 _ _ _ _ _ _ _ _ _)
   | (with_reducible exact r24_Same.mono _ _ _)
   | (with_reducible exact LeO.refl _)
   | (with_reducible exact LeO.none _)
   | (with_reducible refine LeO.ite ?_ ?_)
   | (with_reducible refine LeO.bind ?_ (fun _ => ?_))
   | exact B0 _ _ _ _ _ _ _ _ _
   | exact B1 _ _ _ _ _ _ _ _ _
   | exact B2 _ _ _ _ _ _ _ _ _
   | exact r24_Same.mono _ _ _
   | exact LeO.none _
   | refine LeO.ite ?_ ?_
   | refine LeO.bind ?_ (fun _ => ?_)
theorem r38_Same.mono : ∀ a0 a1 a2 a3 a4 a5 a6 a7 k, LeO (r38_Same.f k a0 a1 a2 a3 a4 a5 a6 a7) (r38_Same.f (k + 1) a0 a1 a2 a3 a4 a5 a6 a7) := by
 intro a0 a1 a2 a3 a4 a5 a6 a7 k
 obtain ⟨B0, B1, B2⟩ := r38_Same.mono_l k
 unfold r38_Same.f
 repeat' first
   | (with_reducible exact B0 _ _ _ _ _ _ _ _ _)
   | (with_reducible exact B1 _ _ _ _ _ _ _ _ _)
   | (with_reducible exact B2 _ _ _ _ _ _ _ _ _)
   | (with_reducible exact r24_Same.mono _ _ _)
   | (with_reducible exact LeO.refl _)
   | (with_reducible exact LeO.none _)
   | (with_reducible refine LeO.ite ?_ ?_)
   | (with_reducible refine LeO.bind ?_ (fun _ => ?_))
   | exact B0 _ _ _ _ _ _ _ _ _
   | exact B1 _ _ _ _ _ _ _ _ _
   | exact B2 _ _ _ _ _ _ _ _ _
   | exact r24_Same.mono _ _ _
   | exact LeO.none _
   | refine LeO.ite ?_ ?_
   | refine LeO.bind ?_ (fun _ => ?_)
set_option maxHeartbeats 8000000 in
set_option maxRecDepth 100000 in
theorem r38_Same.calls (k : Nat) (Bc : Int) (Bd : ByteArray) (Bm : Option Addr) (Bn : Nat) (B6 : List ByteArray) (Bo : Option Addr) (Bp : Nat) (B8 : List (List (S45))) (Bf : Int) (Bg : ByteArray) (Bq : Option Addr) (Br : Nat) (B7 : List ByteArray) (Bs : Option Addr) (Bt : Nat) (Bb : List (List (S45))) (r : Bool) (w : World) (G2 : Kd.C Kd.string w Bm B6.length B6) (G3 : B6.length ≤ Bn) (G4 : Kd.C (Kd.slice 45 k45) w Bo B8.length B8) (G5 : B8.length ≤ Bp) (G6 : Kd.C Kd.string w Bq B7.length B7) (G7 : B7.length ≤ Br) (G8 : Kd.C (Kd.slice 45 k45) w Bs Bb.length Bb) (G9 : Bb.length ≤ Bt) (h : r38_Same.f k Bc Bd B6 B8 Bf Bg B7 Bb = some r) :
  Calls Try.prog 11 #[.agg #[.int .i64 Bc, .string Bd, .slice Bm B6.length Bn, .slice Bo B8.length Bp], .agg #[.int .i64 Bf, .string Bg, .slice Bq B7.length Br, .slice Bs Bb.length Bt]] w fun e w' => e = .returned (.bool r) ∧ Below w.heap.size w w' := by
 have M4 := Try.underlying32
 have Ga := am_ G2
 have Lg := am_ G3
 clear G2 G3
 have Gb := am_ G4
 have Lh := am_ G5
 clear G4 G5
 have Gc := am_ G6
 have Li := am_ G7
 clear G6 G7
 have Gd := am_ G8
 have Lj := am_ G9
 clear G8 G9
 have HB := am_ (Below.refl w.heap.size w)
 have H := h
 unfold r38_Same.f at H
 clear h
 have Le := am_ H
 clear H
 go_enter Try.func11, Try.ntmps11
 go_upto_region 1 with (first | ((with_reducible refine gate_dst (N := 2) rfl ?_); (try (refine gate_guard (by rfl) ?_; dsimp only)); refine bxe_ 2 32 #[.int .i64 Bc, .string Bd, .slice Bm B6.length Bn, .slice Bo B8.length Bp] ?_; intro B2 hg w4 hbox hb; have D2 := below_of hb (by repeat (first | (with_reducible first | exact HB.out | apply ba_ | apply bn_ | apply bd_) | exact HB.out)); have B0 := am_ (hbox); have Ef := am_ ((by rw [hg]; exact (below_size D2) : w.heap.size ≤ B2)); have Be := Ef; replace HB := am_ (below_step D2 hb); clear D2; clear hb hbox hg) | ((with_reducible refine gate_dst (N := 3) rfl ?_); (try (refine gate_guard (by rfl) ?_; dsimp only)); refine bxe_ 3 32 #[.int .i64 Bf, .string Bg, .slice Bq B7.length Br, .slice Bs Bb.length Bt] ?_; intro B3 hg w5 hbox hb; have D2 := below_of hb (by repeat (first | (with_reducible first | exact HB.out | apply ba_ | apply bn_ | apply bd_ | refine bs_ ?_ Be.out) | exact HB.out)); have B1 := am_ (hbox); have Eg := am_ ((by rw [hg]; exact (below_size D2) : w.heap.size ≤ B3)); have Bj := Eg; replace HB := am_ (below_step D2 hb); have B4 := am_ ((by rw [hg]; exact Nat.ne_of_lt (blk_lt (by (with_reducible repeat (first | apply kn_ | apply kd_ | apply ka_)); exact B0.out)) : B2 ≠ B3)); have B5 := nbs_ B4; replace B0 := am_ (blk_below (by (with_reducible repeat (first | apply kn_ | apply kd_ | apply ka_)); exact B0.out) hb); clear D2; clear hb hbox hg))
 repeat (go_quiet (first | ((with_reducible refine gate_dst (N := 2) rfl ?_); (try (refine gate_guard (by rfl) ?_; dsimp only)); refine bxe_ 2 32 #[.int .i64 Bc, .string Bd, .slice Bm B6.length Bn, .slice Bo B8.length Bp] ?_; intro B2 hg w4 hbox hb; have D2 := below_of hb (by repeat (first | (with_reducible first | exact HB.out | apply ba_ | apply bn_ | apply bd_) | exact HB.out)); have B0 := am_ (hbox); have Ef := am_ ((by rw [hg]; exact (below_size D2) : w.heap.size ≤ B2)); have Be := Ef; replace HB := am_ (below_step D2 hb); clear D2; clear hb hbox hg) | ((with_reducible refine gate_dst (N := 3) rfl ?_); (try (refine gate_guard (by rfl) ?_; dsimp only)); refine bxe_ 3 32 #[.int .i64 Bf, .string Bg, .slice Bq B7.length Br, .slice Bs Bb.length Bt] ?_; intro B3 hg w5 hbox hb; have D2 := below_of hb (by repeat (first | (with_reducible first | exact HB.out | apply ba_ | apply bn_ | apply bd_ | refine bs_ ?_ Be.out) | exact HB.out)); have B1 := am_ (hbox); have Eg := am_ ((by rw [hg]; exact (below_size D2) : w.heap.size ≤ B3)); have Bj := Eg; replace HB := am_ (below_step D2 hb); have B4 := am_ ((by rw [hg]; exact Nat.ne_of_lt (blk_lt (by (with_reducible repeat (first | apply kn_ | apply kd_ | apply ka_)); exact B0.out)) : B2 ≠ B3)); have B5 := nbs_ B4; replace B0 := am_ (blk_below (by (with_reducible repeat (first | apply kn_ | apply kd_ | apply ka_)); exact B0.out) hb); clear D2; clear hb hbox hg)); go_upto_region 1 with (first | ((with_reducible refine gate_dst (N := 2) rfl ?_); (try (refine gate_guard (by rfl) ?_; dsimp only)); refine bxe_ 2 32 #[.int .i64 Bc, .string Bd, .slice Bm B6.length Bn, .slice Bo B8.length Bp] ?_; intro B2 hg w4 hbox hb; have D2 := below_of hb (by repeat (first | (with_reducible first | exact HB.out | apply ba_ | apply bn_ | apply bd_) | exact HB.out)); have B0 := am_ (hbox); have Ef := am_ ((by rw [hg]; exact (below_size D2) : w.heap.size ≤ B2)); have Be := Ef; replace HB := am_ (below_step D2 hb); clear D2; clear hb hbox hg) | ((with_reducible refine gate_dst (N := 3) rfl ?_); (try (refine gate_guard (by rfl) ?_; dsimp only)); refine bxe_ 3 32 #[.int .i64 Bf, .string Bg, .slice Bq B7.length Br, .slice Bs Bb.length Bt] ?_; intro B3 hg w5 hbox hb; have D2 := below_of hb (by repeat (first | (with_reducible first | exact HB.out | apply ba_ | apply bn_ | apply bd_ | refine bs_ ?_ Be.out) | exact HB.out)); have B1 := am_ (hbox); have Eg := am_ ((by rw [hg]; exact (below_size D2) : w.heap.size ≤ B3)); have Bj := Eg; replace HB := am_ (below_step D2 hb); have B4 := am_ ((by rw [hg]; exact Nat.ne_of_lt (blk_lt (by (with_reducible repeat (first | apply kn_ | apply kd_ | apply ka_)); exact B0.out)) : B2 ≠ B3)); have B5 := nbs_ B4; replace B0 := am_ (blk_below (by (with_reducible repeat (first | apply kn_ | apply kd_ | apply ka_)); exact B0.out) hb); clear D2; clear hb hbox hg)))
 (try simp only [Act.put, zs_])
 go_cut [36] (fun v36 wc => ∃ (kq : Nat) (Er : Bool), v36 = .bool Er ∧ Aside0 (r38_Same.j0 kq Er Bc Bd B6 B8 Bf Bg B7 Bb = some r) ∧ Aside0 (kq ≤ k) ∧ Aside0 (wc.heap[B2]? = some (.cells #[.int .i64 Bc, .string Bd, (.slice Bm B6.length Bn), (.slice Bo B8.length Bp)] 32 (0, 0))) ∧ Aside0 (wc.heap[B3]? = some (.cells #[.int .i64 Bf, .string Bg, (.slice Bq B7.length Br), (.slice Bs Bb.length Bt)] 32 (0, 0))) ∧ Aside0 (Below w.heap.size w wc))
 case first =>
  have H := Le.out
  clear Le
  by_cases c6 : Bc = Bf
  ·rw [if_pos c6] at H
   have Eh : (Bc == Bf) = true := beq_iff_eq.mpr c6
   have Es : (Bc != Bf) = false := bne_eq_false_iff_eq.mpr c6
   clear c6
   (first | rw [Eh] | (simp only [i64_w, i32_w]; rw [Eh]) | skip)
   by_cases c7 : Bd.toList = Bg.toList
   rw [if_pos c7] at H
   have Et : (Bd.toList == Bg.toList) = true := beq_iff_eq.mpr c7
   have Eu : (Bd.toList != Bg.toList) = false := bne_eq_false_iff_eq.mpr c7
   clear c7
   by_cases c8 : (B6.length : Int) = (B7.length : Int)
   ·rw [if_pos c8] at H
    have Ev : ((B6.length : Int) == (B7.length : Int)) = true := beq_iff_eq.mpr c8
    have Ew : ((B6.length : Int) != (B7.length : Int)) = false := bne_eq_false_iff_eq.mpr c8
    have Ex : (B6.length == B7.length) = true := by first | simpa using c8 | (simp at c8 ⊢; omega)
    clear c8
    have H' := am_ H
    clear H
    have M5 := B4.out
    have M6 := B5.out
    have D3 : w5.cell? ⟨B2, 0, none⟩ = some (.int .i64 Bc) := (blk_cell B0.out 0).trans rfl
    have D4 : w5.cell? ⟨B2, 1, none⟩ = some (.string Bd) := (blk_cell B0.out 1).trans rfl
    have D5 : w5.cell? ⟨B2, 2, none⟩ = some (.slice Bm B6.length Bn) := (blk_cell B0.out 2).trans rfl
    have D6 : w5.cell? ⟨B2, 3, none⟩ = some (.slice Bo B8.length Bp) := (blk_cell B0.out 3).trans rfl
    have D7 := blk_frozen B0.out 0
    have D8 := blk_frozen B0.out 1
    have D9 := blk_frozen B0.out 2
    have Da := blk_frozen B0.out 3
    have Db : w5.cell? ⟨B3, 0, none⟩ = some (.int .i64 Bf) := (blk_cell B1.out 0).trans rfl
    have Dc : w5.cell? ⟨B3, 1, none⟩ = some (.string Bg) := (blk_cell B1.out 1).trans rfl
    have Dd : w5.cell? ⟨B3, 2, none⟩ = some (.slice Bq B7.length Br) := (blk_cell B1.out 2).trans rfl
    have De : w5.cell? ⟨B3, 3, none⟩ = some (.slice Bs Bb.length Bt) := (blk_cell B1.out 3).trans rfl
    have Df := blk_frozen B1.out 0
    have Dg := blk_frozen B1.out 1
    have Dh := blk_frozen B1.out 2
    have Di := blk_frozen B1.out 3
    go_wp2
    repeat (go_quiet (fail); try go_wp2)
    go_meet
    case rel => exact ⟨_, (((B8.length : Int) != (Bb.length : Int))), (by first | rfl | (simp; done) | (simp [*]; done)), H', ⟨by first | omega | exact Nat.le_refl _⟩, ⟨by (with_reducible repeat (first | apply kn_ | apply kd_ | apply ka_)); exact B0.out⟩, ⟨by (with_reducible repeat (first | apply kn_ | apply kd_ | apply ka_)); exact B1.out⟩, ⟨by repeat (first | (with_reducible first | exact HB.out | apply ba_ | apply bn_ | apply bd_ | refine bs_ ?_ Be.out | refine bs_ ?_ Bj.out) | exact HB.out)⟩⟩
   rw [if_neg c8] at H
   have Ev : ((B6.length : Int) == (B7.length : Int)) = false := beq_eq_false_iff_ne.mpr c8
   have Ew : ((B6.length : Int) != (B7.length : Int)) = true := bne_iff_ne.mpr c8
   have Ex : (B6.length == B7.length) = false := by first | simpa using c8 | (simp at c8 ⊢; omega)
   rotate_left
   rw [if_neg c7] at H
   have Et : (Bd.toList == Bg.toList) = false := beq_eq_false_iff_ne.mpr c7
   have Eu : (Bd.toList != Bg.toList) = true := bne_iff_ne.mpr c7
   rotate_left
   all_goals
    have H' := am_ H
    clear H
    have Lk := B4.out
    have Ll := B5.out
    have Dj : w5.cell? ⟨B2, 0, none⟩ = some (.int .i64 Bc) := (blk_cell B0.out 0).trans rfl
    have Dk : w5.cell? ⟨B2, 1, none⟩ = some (.string Bd) := (blk_cell B0.out 1).trans rfl
    have Dl : w5.cell? ⟨B2, 2, none⟩ = some (.slice Bm B6.length Bn) := (blk_cell B0.out 2).trans rfl
    have Dm : w5.cell? ⟨B2, 3, none⟩ = some (.slice Bo B8.length Bp) := (blk_cell B0.out 3).trans rfl
    have Dn := blk_frozen B0.out 0
    have Do := blk_frozen B0.out 1
    have Dp := blk_frozen B0.out 2
    have Dq := blk_frozen B0.out 3
    have Dr : w5.cell? ⟨B3, 0, none⟩ = some (.int .i64 Bf) := (blk_cell B1.out 0).trans rfl
    have Ds : w5.cell? ⟨B3, 1, none⟩ = some (.string Bg) := (blk_cell B1.out 1).trans rfl
    have Dt : w5.cell? ⟨B3, 2, none⟩ = some (.slice Bq B7.length Br) := (blk_cell B1.out 2).trans rfl
    have Du : w5.cell? ⟨B3, 3, none⟩ = some (.slice Bs Bb.length Bt) := (blk_cell B1.out 3).trans rfl
    have Dv := blk_frozen B1.out 0
    have Dw := blk_frozen B1.out 1
    have Dx := blk_frozen B1.out 2
    have Dy := blk_frozen B1.out 3
    go_wp2
    repeat (go_quiet (fail); try go_wp2)
    go_meet
    case rel => exact ⟨_, (true), (by first | rfl | (simp; done) | (simp [*]; done)), H', ⟨by first | omega | exact Nat.le_refl _⟩, ⟨by (with_reducible repeat (first | apply kn_ | apply kd_ | apply ka_)); exact B0.out⟩, ⟨by (with_reducible repeat (first | apply kn_ | apply kd_ | apply ka_)); exact B1.out⟩, ⟨by repeat (first | (with_reducible first | exact HB.out | apply ba_ | apply bn_ | apply bd_ | refine bs_ ?_ Be.out | refine bs_ ?_ Bj.out) | exact HB.out)⟩⟩
  ·rw [if_neg c6] at H
   have Eh : (Bc == Bf) = false := beq_eq_false_iff_ne.mpr c6
   have Es : (Bc != Bf) = true := bne_iff_ne.mpr c6
   (first | rw [Eh] | (simp only [i64_w, i32_w]; rw [Eh]) | skip)
   have H' := am_ H
   clear H
   have Lm := B4.out
   have Ln := B5.out
   have Dz : w5.cell? ⟨B2, 0, none⟩ = some (.int .i64 Bc) := (blk_cell B0.out 0).trans rfl
   have E0 : w5.cell? ⟨B2, 1, none⟩ = some (.string Bd) := (blk_cell B0.out 1).trans rfl
   have E1 : w5.cell? ⟨B2, 2, none⟩ = some (.slice Bm B6.length Bn) := (blk_cell B0.out 2).trans rfl
   have E2 : w5.cell? ⟨B2, 3, none⟩ = some (.slice Bo B8.length Bp) := (blk_cell B0.out 3).trans rfl
   have E3 := blk_frozen B0.out 0
   have E4 := blk_frozen B0.out 1
   have E5 := blk_frozen B0.out 2
   have E6 := blk_frozen B0.out 3
   have E7 : w5.cell? ⟨B3, 0, none⟩ = some (.int .i64 Bf) := (blk_cell B1.out 0).trans rfl
   have E8 : w5.cell? ⟨B3, 1, none⟩ = some (.string Bg) := (blk_cell B1.out 1).trans rfl
   have E9 : w5.cell? ⟨B3, 2, none⟩ = some (.slice Bq B7.length Br) := (blk_cell B1.out 2).trans rfl
   have Ea : w5.cell? ⟨B3, 3, none⟩ = some (.slice Bs Bb.length Bt) := (blk_cell B1.out 3).trans rfl
   have Eb := blk_frozen B1.out 0
   have Ec := blk_frozen B1.out 1
   have Ed := blk_frozen B1.out 2
   have Ee := blk_frozen B1.out 3
   go_wp2
   repeat (go_quiet (fail); try go_wp2)
   go_meet
   case rel => exact ⟨_, (true), (by first | rfl | (simp; done) | (simp [*]; done)), H', ⟨by first | omega | exact Nat.le_refl _⟩, ⟨by (with_reducible repeat (first | apply kn_ | apply kd_ | apply ka_)); exact B0.out⟩, ⟨by (with_reducible repeat (first | apply kn_ | apply kd_ | apply ka_)); exact B1.out⟩, ⟨by repeat (first | (with_reducible first | exact HB.out | apply ba_ | apply bn_ | apply bd_ | refine bs_ ?_ Be.out | refine bs_ ?_ Bj.out) | exact HB.out)⟩⟩
 case rest =>
  clear Le
  try clear c1
  try clear p2
  try clear c6
  try clear Eh
  try clear Es
  try clear c7
  try clear Et
  try clear Eu
  try clear c8
  try clear Ev
  try clear Ew
  try clear Ex
  try clear c9
  try clear c11
  try clear c12
  try clear c15
  try clear c18
  try clear D3 D4 D5 D6
  try clear Db Dc Dd De
  try clear Dj Dk Dl Dm
  try clear Dr Ds Dt Du
  try clear hcz16_0 hcz16_1 hcz16_2 hcz16_3
  try clear hcz17_0 hcz17_1 hcz17_2 hcz17_3
  try clear Dz E0 E1 E2
  try clear E7 E8 E9 Ea
  try clear D7 D8 D9 Da
  try clear Df Dg Dh Di
  try clear Dn Do Dp Dq
  try clear Dv Dw Dx Dy
  try clear hfz16_0 hfz16_1 hfz16_2 hfz16_3
  try clear hfz17_0 hfz17_1 hfz17_2 hfz17_3
  try clear E3 E4 E5 E6
  try clear Eb Ec Ed Ee
  obtain ⟨kq, Er, rfl, HA, J4, B0, B1, HB⟩ := hcut
  cases kq with
  | zero => exact absurd HA.out (by simp [r38_Same.j0])
  | succ Lo =>
   have H := HA.out
   clear HA
   simp only [r38_Same.j0] at H
   by_cases Gt : Er = true
   ·subst Gt
    rw [if_pos rfl] at H
    obtain rfl := Option.some.inj H
    go_wp2
    repeat (go_quiet (fail); try go_wp2)
    go_ret
    exact ⟨by first | rfl | (simp [*] <;> rfl), by repeat (first | (with_reducible first | exact HB.out | apply ba_ | apply bn_ | apply bd_ | refine bs_ ?_ Be.out | refine bs_ ?_ Bj.out) | exact HB.out)⟩
   ·replace Gt := Bool.eq_false_iff.mpr Gt
    subst Gt
    rw [if_neg (show ¬ (false = true) by decide)] at H
    have H' := am_ H
    clear H
    go_wp2
    repeat (go_quiet (fail); try go_wp2)
    go_loopg [5] Lo (fun kq v5 w' => ∃ (B9 : Int), v5 = .int .i64 B9 ∧ Aside0 (r38_Same.l0 kq B9 Bc Bd B6 B8 Bf Bg B7 Bb = some r) ∧ Aside0 (kq ≤ Lo) ∧ Aside0 (w'.heap[B2]? = some (.cells #[.int .i64 Bc, .string Bd, (.slice Bm B6.length Bn), (.slice Bo B8.length Bp)] 32 (0, 0))) ∧ Aside0 (w'.heap[B3]? = some (.cells #[.int .i64 Bf, .string Bg, (.slice Bq B7.length Br), (.slice Bs Bb.length Bt)] 32 (0, 0))) ∧ Aside0 (Below w.heap.size w w'))
    case atStart => exact ⟨(0), (by first | rfl | (simp; done) | (simp [*]; done)), H', ⟨Nat.le_refl _⟩, ⟨by (with_reducible repeat (first | apply kn_ | apply kd_ | apply ka_)); exact B0.out⟩, ⟨by (with_reducible repeat (first | apply kn_ | apply kd_ | apply ka_)); exact B1.out⟩, ⟨by repeat (first | (with_reducible first | exact HB.out | apply ba_ | apply bn_ | apply bd_ | refine bs_ ?_ Be.out | refine bs_ ?_ Bj.out) | exact HB.out)⟩⟩
    case round =>
     clear H'
     try clear c1
     try clear c2
     try clear p2
     try clear c6
     try clear Eh
     try clear Es
     try clear c7
     try clear Et
     try clear Eu
     try clear c8
     try clear Ev
     try clear Ew
     try clear Ex
     try clear c9
     try clear c11
     try clear c12
     try clear c15
     try clear c18
     try clear Gt
     try clear D3 D4 D5 D6
     try clear Db Dc Dd De
     try clear Dj Dk Dl Dm
     try clear Dr Ds Dt Du
     try clear hcz16_0 hcz16_1 hcz16_2 hcz16_3
     try clear hcz17_0 hcz17_1 hcz17_2 hcz17_3
     try clear Dz E0 E1 E2
     try clear E7 E8 E9 Ea
     try clear D7 D8 D9 Da
     try clear Df Dg Dh Di
     try clear Dn Do Dp Dq
     try clear Dv Dw Dx Dy
     try clear hfz16_0 hfz16_1 hfz16_2 hfz16_3
     try clear hfz17_0 hfz17_1 hfz17_2 hfz17_3
     try clear E3 E4 E5 E6
     try clear Eb Ec Ed Ee
     try clear p2
     obtain ⟨B9, rfl, HA, J5, B0, B1, HB⟩ := hrel
     cases gk with
     | zero => exact absurd HA.out (by simp [r38_Same.l0])
     | succ k2 =>
      have H := HA.out
      clear HA
      simp only [r38_Same.l0] at H
      by_cases Gi : B9 < (B6.length : Int)
      ·rw [if_pos Gi] at H
       have Ge : decide (B9 < (B6.length : Int)) = true := decide_eq_true Gi
       clear Gi
       by_cases Gv : 0 ≤ B9
       ·rw [if_pos Gv] at H
        have Gw : decide (0 ≤ B9) = true := decide_eq_true Gv
        clear Gv
        by_cases Gx : B9 < (B7.length : Int)
        ·rw [if_pos Gx] at H
         have Gy : decide (B9 < (B7.length : Int)) = true := decide_eq_true Gx
         clear Gx
         by_cases Gf : (rdOf ByteArray.empty B6 B9).toList = (rdOf ByteArray.empty B7 B9).toList
         ·rw [if_pos Gf] at H
          have Gg : ((rdOf ByteArray.empty B6 B9).toList == (rdOf ByteArray.empty B7 B9).toList) = true := beq_iff_eq.mpr Gf
          have Gh : ((rdOf ByteArray.empty B6 B9).toList != (rdOf ByteArray.empty B7 B9).toList) = false := bne_eq_false_iff_eq.mpr Gf
          clear Gf
          have H' := am_ H
          clear H
          have Lp := B4.out
          have Lq := B5.out
          have Ey : wr.cell? ⟨B2, 0, none⟩ = some (.int .i64 Bc) := (blk_cell B0.out 0).trans rfl
          have Ez : wr.cell? ⟨B2, 1, none⟩ = some (.string Bd) := (blk_cell B0.out 1).trans rfl
          have F0 : wr.cell? ⟨B2, 2, none⟩ = some (.slice Bm B6.length Bn) := (blk_cell B0.out 2).trans rfl
          have F1 : wr.cell? ⟨B2, 3, none⟩ = some (.slice Bo B8.length Bp) := (blk_cell B0.out 3).trans rfl
          have F2 := blk_frozen B0.out 0
          have F3 := blk_frozen B0.out 1
          have F4 := blk_frozen B0.out 2
          have F5 := blk_frozen B0.out 3
          have Ei : 0 ≤ (B9 : Int) := of_decide_eq_true (by first | (with_reducible assumption) | assumption)
          have Ej : B9 < (B6.length : Int) := of_decide_eq_true (by first | (with_reducible assumption) | assumption)
          obtain ⟨Gz, Gj, Bh⟩ := Kd.at_string Ga.out B9 Ei Ej
          cases Gj
          replace Bh := (HB.out.cell (World.block_lt_of_cell? w _ Bh)).trans Bh
          replace Ei := eq_true Ei
          replace Ej := eq_true Ej
          have F6 : wr.cell? ⟨B3, 0, none⟩ = some (.int .i64 Bf) := (blk_cell B1.out 0).trans rfl
          have F7 : wr.cell? ⟨B3, 1, none⟩ = some (.string Bg) := (blk_cell B1.out 1).trans rfl
          have F8 : wr.cell? ⟨B3, 2, none⟩ = some (.slice Bq B7.length Br) := (blk_cell B1.out 2).trans rfl
          have F9 : wr.cell? ⟨B3, 3, none⟩ = some (.slice Bs Bb.length Bt) := (blk_cell B1.out 3).trans rfl
          have Fa := blk_frozen B1.out 0
          have Fb := blk_frozen B1.out 1
          have Fc := blk_frozen B1.out 2
          have Fd := blk_frozen B1.out 3
          have Ek : 0 ≤ (B9 : Int) := of_decide_eq_true (by first | (with_reducible assumption) | assumption)
          have El : B9 < (B7.length : Int) := of_decide_eq_true (by first | (with_reducible assumption) | assumption)
          obtain ⟨J0, Gk, Bi⟩ := Kd.at_string Gc.out B9 Ek El
          cases Gk
          replace Bi := (HB.out.cell (World.block_lt_of_cell? w _ Bi)).trans Bi
          replace Ek := eq_true Ek
          replace El := eq_true El
          go_wp2
          repeat (go_quiet (fail); try go_wp2)
          go_roundg k2
          case measure => have := J4.out; have := J5.out; omega
          case rel => exact ⟨(wrap64 (B9 + 1)), (by first | rfl | (simp; done) | (simp [*]; done)), H', ⟨by have := J4.out; have := J5.out; omega⟩, ⟨by (with_reducible repeat (first | apply kn_ | apply kd_ | apply ka_)); exact B0.out⟩, ⟨by (with_reducible repeat (first | apply kn_ | apply kd_ | apply ka_)); exact B1.out⟩, ⟨by repeat (first | (with_reducible first | exact HB.out | apply ba_ | apply bn_ | apply bd_ | refine bs_ ?_ Be.out | refine bs_ ?_ Bj.out) | exact HB.out)⟩⟩
         ·rw [if_neg Gf] at H
          have Gg : ((rdOf ByteArray.empty B6 B9).toList == (rdOf ByteArray.empty B7 B9).toList) = false := beq_eq_false_iff_ne.mpr Gf
          have Gh : ((rdOf ByteArray.empty B6 B9).toList != (rdOf ByteArray.empty B7 B9).toList) = true := bne_iff_ne.mpr Gf
          obtain rfl := Option.some.inj H
          have Lr := B4.out
          have Ls := B5.out
          have Fe : wr.cell? ⟨B2, 0, none⟩ = some (.int .i64 Bc) := (blk_cell B0.out 0).trans rfl
          have Ff : wr.cell? ⟨B2, 1, none⟩ = some (.string Bd) := (blk_cell B0.out 1).trans rfl
          have Fg : wr.cell? ⟨B2, 2, none⟩ = some (.slice Bm B6.length Bn) := (blk_cell B0.out 2).trans rfl
          have Fh : wr.cell? ⟨B2, 3, none⟩ = some (.slice Bo B8.length Bp) := (blk_cell B0.out 3).trans rfl
          have Fi := blk_frozen B0.out 0
          have Fj := blk_frozen B0.out 1
          have Fk := blk_frozen B0.out 2
          have Fl := blk_frozen B0.out 3
          have Ei : 0 ≤ (B9 : Int) := of_decide_eq_true (by first | (with_reducible assumption) | assumption)
          have Ej : B9 < (B6.length : Int) := of_decide_eq_true (by first | (with_reducible assumption) | assumption)
          obtain ⟨Gz, Gj, Bh⟩ := Kd.at_string Ga.out B9 Ei Ej
          cases Gj
          replace Bh := (HB.out.cell (World.block_lt_of_cell? w _ Bh)).trans Bh
          replace Ei := eq_true Ei
          replace Ej := eq_true Ej
          have Fm : wr.cell? ⟨B3, 0, none⟩ = some (.int .i64 Bf) := (blk_cell B1.out 0).trans rfl
          have Fn : wr.cell? ⟨B3, 1, none⟩ = some (.string Bg) := (blk_cell B1.out 1).trans rfl
          have Fo : wr.cell? ⟨B3, 2, none⟩ = some (.slice Bq B7.length Br) := (blk_cell B1.out 2).trans rfl
          have Fp : wr.cell? ⟨B3, 3, none⟩ = some (.slice Bs Bb.length Bt) := (blk_cell B1.out 3).trans rfl
          have Fq := blk_frozen B1.out 0
          have Fr := blk_frozen B1.out 1
          have Fs := blk_frozen B1.out 2
          have Ft := blk_frozen B1.out 3
          have Ek : 0 ≤ (B9 : Int) := of_decide_eq_true (by first | (with_reducible assumption) | assumption)
          have El : B9 < (B7.length : Int) := of_decide_eq_true (by first | (with_reducible assumption) | assumption)
          obtain ⟨J0, Gk, Bi⟩ := Kd.at_string Gc.out B9 Ek El
          cases Gk
          replace Bi := (HB.out.cell (World.block_lt_of_cell? w _ Bi)).trans Bi
          replace Ek := eq_true Ek
          replace El := eq_true El
          go_wp2
          repeat (go_quiet (fail); try go_wp2)
          go_ret
          exact ⟨by first | rfl | (simp [*] <;> rfl), by repeat (first | (with_reducible first | exact HB.out | apply ba_ | apply bn_ | apply bd_ | refine bs_ ?_ Be.out | refine bs_ ?_ Bj.out) | exact HB.out)⟩
        ·rw [if_neg Gx] at H
         exact absurd H (by simp)
       ·rw [if_neg Gv] at H
        exact absurd H (by simp)
      ·rw [if_neg Gi] at H
       have Ge : decide (B9 < (B6.length : Int)) = false := decide_eq_false Gi
       clear Gi
       have H' := am_ H
       clear H
       have Lt := B4.out
       have Lu := B5.out
       have Fu : wr.cell? ⟨B2, 0, none⟩ = some (.int .i64 Bc) := (blk_cell B0.out 0).trans rfl
       have Fv : wr.cell? ⟨B2, 1, none⟩ = some (.string Bd) := (blk_cell B0.out 1).trans rfl
       have Fw : wr.cell? ⟨B2, 2, none⟩ = some (.slice Bm B6.length Bn) := (blk_cell B0.out 2).trans rfl
       have Fx : wr.cell? ⟨B2, 3, none⟩ = some (.slice Bo B8.length Bp) := (blk_cell B0.out 3).trans rfl
       have Fy := blk_frozen B0.out 0
       have Fz := blk_frozen B0.out 1
       have G0 := blk_frozen B0.out 2
       have G1 := blk_frozen B0.out 3
       go_wp2
       repeat (go_quiet (fail); try go_wp2)
       go_loopg [6] k2 (fun kq v6 w' => ∃ (Ba : Int), v6 = .int .i64 Ba ∧ Aside0 (r38_Same.l1 kq Ba Bc Bd B6 B8 Bf Bg B7 Bb = some r) ∧ Aside0 (kq ≤ k2) ∧ Aside0 (w'.heap[B2]? = some (.cells #[.int .i64 Bc, .string Bd, (.slice Bm B6.length Bn), (.slice Bo B8.length Bp)] 32 (0, 0))) ∧ Aside0 (w'.heap[B3]? = some (.cells #[.int .i64 Bf, .string Bg, (.slice Bq B7.length Br), (.slice Bs Bb.length Bt)] 32 (0, 0))) ∧ Aside0 (Below w.heap.size w w'))
       case atStart => exact ⟨(0), (by first | rfl | (simp; done) | (simp [*]; done)), H', ⟨Nat.le_refl _⟩, ⟨by (with_reducible repeat (first | apply kn_ | apply kd_ | apply ka_)); exact B0.out⟩, ⟨by (with_reducible repeat (first | apply kn_ | apply kd_ | apply ka_)); exact B1.out⟩, ⟨by repeat (first | (with_reducible first | exact HB.out | apply ba_ | apply bn_ | apply bd_ | refine bs_ ?_ Be.out | refine bs_ ?_ Bj.out) | exact HB.out)⟩⟩
       case round =>
        clear H'
        try clear c1
        try clear c2
        try clear p2
        try clear c3
        try clear p4
        try clear q4
        try clear hx4
        try clear c6
        try clear Eh
        try clear Es
        try clear p6
        try clear c7
        try clear Et
        try clear Eu
        try clear c8
        try clear Ev
        try clear Ew
        try clear Ex
        try clear c9
        try clear c11
        try clear c12
        try clear c15
        try clear c18
        try clear Gt
        try clear Gi
        try clear Ge
        try clear Gv
        try clear Gw
        try clear Gx
        try clear Gy
        try clear Gf
        try clear Gg
        try clear Gh
        try clear c26
        try clear c29
        try clear c32
        try clear D3 D4 D5 D6
        try clear Db Dc Dd De
        try clear Dj Dk Dl Dm
        try clear Dr Ds Dt Du
        try clear hcz16_0 hcz16_1 hcz16_2 hcz16_3
        try clear hcz17_0 hcz17_1 hcz17_2 hcz17_3
        try clear Dz E0 E1 E2
        try clear E7 E8 E9 Ea
        try clear Ey Ez F0 F1
        try clear F6 F7 F8 F9
        try clear Fe Ff Fg Fh
        try clear Fm Fn Fo Fp
        try clear Fu Fv Fw Fx
        try clear D7 D8 D9 Da
        try clear Df Dg Dh Di
        try clear Dn Do Dp Dq
        try clear Dv Dw Dx Dy
        try clear hfz16_0 hfz16_1 hfz16_2 hfz16_3
        try clear hfz17_0 hfz17_1 hfz17_2 hfz17_3
        try clear E3 E4 E5 E6
        try clear Eb Ec Ed Ee
        try clear F2 F3 F4 F5
        try clear Fa Fb Fc Fd
        try clear Fi Fj Fk Fl
        try clear Fq Fr Fs Ft
        try clear Fy Fz G0 G1
        try clear Bh
        try clear Bi
        try clear p2
        try clear Ei
        try clear Ek
        try clear Ej
        try clear El
        obtain ⟨Ba, rfl, HA, Lv, B0, B1, HB⟩ := hrel
        cases gk with
        | zero => exact absurd HA.out (by simp [r38_Same.l1])
        | succ k3 =>
         have H := HA.out
         clear HA
         simp only [r38_Same.l1] at H
         by_cases Gu : Ba < (B8.length : Int)
         ·rw [if_pos Gu] at H
          have J1 : decide (Ba < (B8.length : Int)) = true := decide_eq_true Gu
          clear Gu
          by_cases J6 : 0 ≤ Ba
          ·rw [if_pos J6] at H
           have Lw : decide (0 ≤ Ba) = true := decide_eq_true J6
           clear J6
           by_cases J7 : Ba < (Bb.length : Int)
           ·rw [if_pos J7] at H
            have Lx : decide (Ba < (Bb.length : Int)) = true := decide_eq_true J7
            clear J7
            obtain ⟨Lf, J8, H⟩ := bes_ H
            try dsimp only at H
            by_cases J9 : Lf = true
            ·subst J9
             rw [if_pos rfl] at H
             have H' := am_ H
             clear H
             have Ly := B4.out
             have Lz := B5.out
             have Ja : wr.cell? ⟨B2, 0, none⟩ = some (.int .i64 Bc) := (blk_cell B0.out 0).trans rfl
             have Jb : wr.cell? ⟨B2, 1, none⟩ = some (.string Bd) := (blk_cell B0.out 1).trans rfl
             have Jc : wr.cell? ⟨B2, 2, none⟩ = some (.slice Bm B6.length Bn) := (blk_cell B0.out 2).trans rfl
             have Jd : wr.cell? ⟨B2, 3, none⟩ = some (.slice Bo B8.length Bp) := (blk_cell B0.out 3).trans rfl
             have Je := blk_frozen B0.out 0
             have Jf := blk_frozen B0.out 1
             have Jg := blk_frozen B0.out 2
             have Jh := blk_frozen B0.out 3
             have Em : 0 ≤ (Ba : Int) := of_decide_eq_true (by first | (with_reducible assumption) | assumption)
             have En : Ba < (B8.length : Int) := of_decide_eq_true (by first | (with_reducible assumption) | assumption)
             obtain ⟨J2, Gl, Gm, Gp, Bk, Bu, Bv⟩ := at_L3 Gb.out Ba Em En
             cases Gp
             replace Bk := (HB.out.cell (World.block_lt_of_cell? w _ Bk)).trans Bk
             have Bw := am_ Bv
             have Bx := am_ Bu
             clear Bv Bu
             replace Em := eq_true Em
             replace En := eq_true En
             have Ji : wr.cell? ⟨B3, 0, none⟩ = some (.int .i64 Bf) := (blk_cell B1.out 0).trans rfl
             have Jj : wr.cell? ⟨B3, 1, none⟩ = some (.string Bg) := (blk_cell B1.out 1).trans rfl
             have Jk : wr.cell? ⟨B3, 2, none⟩ = some (.slice Bq B7.length Br) := (blk_cell B1.out 2).trans rfl
             have Jl : wr.cell? ⟨B3, 3, none⟩ = some (.slice Bs Bb.length Bt) := (blk_cell B1.out 3).trans rfl
             have Jm := blk_frozen B1.out 0
             have Jn := blk_frozen B1.out 1
             have Jo := blk_frozen B1.out 2
             have Jp := blk_frozen B1.out 3
             have Eo : 0 ≤ (Ba : Int) := of_decide_eq_true (by first | (with_reducible assumption) | assumption)
             have Ep : Ba < (Bb.length : Int) := of_decide_eq_true (by first | (with_reducible assumption) | assumption)
             obtain ⟨J3, Gq, Gr, Gs, Bl, By, Bz⟩ := at_L3 Gd.out Ba Eo Ep
             cases Gs
             replace Bl := (HB.out.cell (World.block_lt_of_cell? w _ Bl)).trans Bl
             have D0 := am_ Bz
             have D1 := am_ By
             clear Bz By
             replace Eo := eq_true Eo
             replace Ep := eq_true Ep
             iterate 8 (go_wp2_with (first | (go_at_call 32; (with_reducible refine (r24_Same.calls k3 _ _ (rd_L3 B8 Ba) _ _ (rd_L3 Bb Ba) _ _ ?side1 ?side2 ?side3 ?side4 J8.out).mono ?_); (case side1 => repeat (first | exact (Kd.C_below Bw.out HB.out) | (with_reducible refine Kd.C_alloc ?_ _) | (with_reducible refine Kd.C_drewN ?_ _) | (with_reducible refine Kd.C_drew ?_))); (case side2 => exact Bx.out); (case side3 => repeat (first | exact (Kd.C_below D0.out HB.out) | (with_reducible refine Kd.C_alloc ?_ _) | (with_reducible refine Kd.C_drewN ?_ _) | (with_reducible refine Kd.C_drew ?_))); (case side4 => exact D1.out); rintro e w' ⟨rfl, ⟨nd, rfl⟩⟩; (try first | exact ⟨rfl, _, World.drewN_drewN _ _ _⟩ | exact ⟨rfl, _, Eq.trans (World.drewN_drewN _ _ _) (congrArg (World.drewN _) (Nat.add_assoc _ _ _))⟩))); try (go_quiet (first | (go_at_call 32; (with_reducible refine (r24_Same.calls k3 _ _ (rd_L3 B8 Ba) _ _ (rd_L3 Bb Ba) _ _ ?side1 ?side2 ?side3 ?side4 J8.out).mono ?_); (case side1 => repeat (first | exact (Kd.C_below Bw.out HB.out) | (with_reducible refine Kd.C_alloc ?_ _) | (with_reducible refine Kd.C_drewN ?_ _) | (with_reducible refine Kd.C_drew ?_))); (case side2 => exact Bx.out); (case side3 => repeat (first | exact (Kd.C_below D0.out HB.out) | (with_reducible refine Kd.C_alloc ?_ _) | (with_reducible refine Kd.C_drewN ?_ _) | (with_reducible refine Kd.C_drew ?_))); (case side4 => exact D1.out); rintro e w' ⟨rfl, ⟨nd, rfl⟩⟩; (try first | exact ⟨rfl, _, World.drewN_drewN _ _ _⟩ | exact ⟨rfl, _, Eq.trans (World.drewN_drewN _ _ _) (congrArg (World.drewN _) (Nat.add_assoc _ _ _))⟩)))))
             go_roundg k3
             case measure => have := J4.out; have := J5.out; have := Lv.out; omega
             case rel => exact ⟨(wrap64 (Ba + 1)), (by first | rfl | (simp; done) | (simp [*]; done)), H', ⟨by have := J4.out; have := J5.out; have := Lv.out; omega⟩, ⟨by (with_reducible repeat (first | apply kn_ | apply kd_ | apply ka_)); exact B0.out⟩, ⟨by (with_reducible repeat (first | apply kn_ | apply kd_ | apply ka_)); exact B1.out⟩, ⟨by repeat (first | (with_reducible first | exact HB.out | apply ba_ | apply bn_ | apply bd_ | refine bs_ ?_ Be.out | refine bs_ ?_ Bj.out) | exact HB.out)⟩⟩
            ·replace J9 := Bool.eq_false_iff.mpr J9
             subst J9
             rw [if_neg (show ¬ (false = true) by decide)] at H
             obtain rfl := Option.some.inj H
             have M0 := B4.out
             have M1 := B5.out
             have Jq : wr.cell? ⟨B2, 0, none⟩ = some (.int .i64 Bc) := (blk_cell B0.out 0).trans rfl
             have Jr : wr.cell? ⟨B2, 1, none⟩ = some (.string Bd) := (blk_cell B0.out 1).trans rfl
             have Js : wr.cell? ⟨B2, 2, none⟩ = some (.slice Bm B6.length Bn) := (blk_cell B0.out 2).trans rfl
             have Jt : wr.cell? ⟨B2, 3, none⟩ = some (.slice Bo B8.length Bp) := (blk_cell B0.out 3).trans rfl
             have Ju := blk_frozen B0.out 0
             have Jv := blk_frozen B0.out 1
             have Jw := blk_frozen B0.out 2
             have Jx := blk_frozen B0.out 3
             have Em : 0 ≤ (Ba : Int) := of_decide_eq_true (by first | (with_reducible assumption) | assumption)
             have En : Ba < (B8.length : Int) := of_decide_eq_true (by first | (with_reducible assumption) | assumption)
             obtain ⟨J2, Gl, Gm, Gp, Bk, Bu, Bv⟩ := at_L3 Gb.out Ba Em En
             cases Gp
             replace Bk := (HB.out.cell (World.block_lt_of_cell? w _ Bk)).trans Bk
             have Bw := am_ Bv
             have Bx := am_ Bu
             clear Bv Bu
             replace Em := eq_true Em
             replace En := eq_true En
             have Jy : wr.cell? ⟨B3, 0, none⟩ = some (.int .i64 Bf) := (blk_cell B1.out 0).trans rfl
             have Jz : wr.cell? ⟨B3, 1, none⟩ = some (.string Bg) := (blk_cell B1.out 1).trans rfl
             have L0 : wr.cell? ⟨B3, 2, none⟩ = some (.slice Bq B7.length Br) := (blk_cell B1.out 2).trans rfl
             have L1 : wr.cell? ⟨B3, 3, none⟩ = some (.slice Bs Bb.length Bt) := (blk_cell B1.out 3).trans rfl
             have L2 := blk_frozen B1.out 0
             have L3 := blk_frozen B1.out 1
             have L4 := blk_frozen B1.out 2
             have L5 := blk_frozen B1.out 3
             have Eo : 0 ≤ (Ba : Int) := of_decide_eq_true (by first | (with_reducible assumption) | assumption)
             have Ep : Ba < (Bb.length : Int) := of_decide_eq_true (by first | (with_reducible assumption) | assumption)
             obtain ⟨J3, Gq, Gr, Gs, Bl, By, Bz⟩ := at_L3 Gd.out Ba Eo Ep
             cases Gs
             replace Bl := (HB.out.cell (World.block_lt_of_cell? w _ Bl)).trans Bl
             have D0 := am_ Bz
             have D1 := am_ By
             clear Bz By
             replace Eo := eq_true Eo
             replace Ep := eq_true Ep
             iterate 8 (go_wp2_with (first | (go_at_call 32; (with_reducible refine (r24_Same.calls k3 _ _ (rd_L3 B8 Ba) _ _ (rd_L3 Bb Ba) _ _ ?side1 ?side2 ?side3 ?side4 J8.out).mono ?_); (case side1 => repeat (first | exact (Kd.C_below Bw.out HB.out) | (with_reducible refine Kd.C_alloc ?_ _) | (with_reducible refine Kd.C_drewN ?_ _) | (with_reducible refine Kd.C_drew ?_))); (case side2 => exact Bx.out); (case side3 => repeat (first | exact (Kd.C_below D0.out HB.out) | (with_reducible refine Kd.C_alloc ?_ _) | (with_reducible refine Kd.C_drewN ?_ _) | (with_reducible refine Kd.C_drew ?_))); (case side4 => exact D1.out); rintro e w' ⟨rfl, ⟨nd, rfl⟩⟩; (try first | exact ⟨rfl, _, World.drewN_drewN _ _ _⟩ | exact ⟨rfl, _, Eq.trans (World.drewN_drewN _ _ _) (congrArg (World.drewN _) (Nat.add_assoc _ _ _))⟩))); try (go_quiet (first | (go_at_call 32; (with_reducible refine (r24_Same.calls k3 _ _ (rd_L3 B8 Ba) _ _ (rd_L3 Bb Ba) _ _ ?side1 ?side2 ?side3 ?side4 J8.out).mono ?_); (case side1 => repeat (first | exact (Kd.C_below Bw.out HB.out) | (with_reducible refine Kd.C_alloc ?_ _) | (with_reducible refine Kd.C_drewN ?_ _) | (with_reducible refine Kd.C_drew ?_))); (case side2 => exact Bx.out); (case side3 => repeat (first | exact (Kd.C_below D0.out HB.out) | (with_reducible refine Kd.C_alloc ?_ _) | (with_reducible refine Kd.C_drewN ?_ _) | (with_reducible refine Kd.C_drew ?_))); (case side4 => exact D1.out); rintro e w' ⟨rfl, ⟨nd, rfl⟩⟩; (try first | exact ⟨rfl, _, World.drewN_drewN _ _ _⟩ | exact ⟨rfl, _, Eq.trans (World.drewN_drewN _ _ _) (congrArg (World.drewN _) (Nat.add_assoc _ _ _))⟩)))))
             go_ret
             exact ⟨by first | rfl | (simp [*] <;> rfl), by repeat (first | (with_reducible first | exact HB.out | apply ba_ | apply bn_ | apply bd_ | refine bs_ ?_ Be.out | refine bs_ ?_ Bj.out) | exact HB.out)⟩
           ·rw [if_neg J7] at H
            exact absurd H (by simp)
          ·rw [if_neg J6] at H
           exact absurd H (by simp)
         ·rw [if_neg Gu] at H
          have J1 : decide (Ba < (B8.length : Int)) = false := decide_eq_false Gu
          clear Gu
          obtain rfl := Option.some.inj H
          have M2 := B4.out
          have M3 := B5.out
          have L6 : wr.cell? ⟨B2, 0, none⟩ = some (.int .i64 Bc) := (blk_cell B0.out 0).trans rfl
          have L7 : wr.cell? ⟨B2, 1, none⟩ = some (.string Bd) := (blk_cell B0.out 1).trans rfl
          have L8 : wr.cell? ⟨B2, 2, none⟩ = some (.slice Bm B6.length Bn) := (blk_cell B0.out 2).trans rfl
          have L9 : wr.cell? ⟨B2, 3, none⟩ = some (.slice Bo B8.length Bp) := (blk_cell B0.out 3).trans rfl
          have La := blk_frozen B0.out 0
          have Lb := blk_frozen B0.out 1
          have Lc := blk_frozen B0.out 2
          have Ld := blk_frozen B0.out 3
          go_wp2
          repeat (go_quiet (fail); try go_wp2)
          go_ret
          exact ⟨by first | rfl | (simp [*] <;> rfl), by repeat (first | (with_reducible first | exact HB.out | apply ba_ | apply bn_ | apply bd_ | refine bs_ ?_ Be.out | refine bs_ ?_ Bj.out) | exact HB.out)⟩
end Go.Proofs.Ytdnccjlfongdeaa.Gn
