import Derived.Test.YtdnccjlfongdeaaZRoundOnlyGn0
import Derived.Test.YtdnccjlfongdeaaZRoundOnlyGn2
import Derived.Test.YtdnccjlfongdeaaZRoundOnlyGn6
import Derived.Test.YtdnccjlfongdeaaZRoundOnlyGn7
namespace Go.Proofs.Ytdnccjlfongdeaa.Gn
open Go.RowKit Go.Proofs.YtdnccjlfongdeaaW.PrintWords Go.Proofs.YtdnccjlfongdeaaW.PrintLast Go.Proofs.YtdnccjlfongdeaaW.PrintMore
attribute [local go_sem] max2_int min2_int max_two min_two max_three min_three max_four min_four   -- for this text's walks alone
set_option linter.unusedVariables false
set_option linter.unusedSimpArgs false
def gate_Mark.l0 : Nat → ByteArray → List Int → List Int → Int → Int → Option (ByteArray)
 | 0, _, _, _, _, _ => none
 | k + 1, x0, x2, x7, B2, B0 => if B0 < B2 then (if 0 ≤ B0 then (if B0 < (x7.length : Int) then ((some (x7.set (B0 : Int).toNat 48 : List Int)).bind fun B1 => (if B0 < (x0.size : Int) then (if (bt x0 B0) = 49 then (gate_Mark.l0 k x0 x2 (B1.set (B0 : Int).toNat 49) B2 (wrap64 (B0 + 1))) else ((slices_Contains_int_int.f k x2 B0).bind fun B3 => (if B3 = true then (gate_Mark.l0 k x0 x2 (B1.set (B0 : Int).toNat 49) B2 (wrap64 (B0 + 1))) else (gate_Mark.l0 k x0 x2 B1 B2 (wrap64 (B0 + 1)))))) else ((slices_Contains_int_int.f k x2 B0).bind fun B4 => (if B4 = true then (gate_Mark.l0 k x0 x2 (B1.set (B0 : Int).toNat 49) B2 (wrap64 (B0 + 1))) else (gate_Mark.l0 k x0 x2 B1 B2 (wrap64 (B0 + 1))))))) else (none)) else (none)) else (some (strOfNums x7))
def gate_Mark.f (k : Nat) (a0 : ByteArray) (a1 : Int) (l2 : List Int) : Option (ByteArray) := (num_Clamp.f k a1 0 64).bind fun B0 => (if 0 ≤ B0 then (if (B0 : Int).toNat ≤ 281474976710656 then ((some (List.replicate (B0 : Int).toNat 0 : List Int)).bind fun B1 => (gate_Mark.l0 k a0 l2 B1 (B1.length : Int) 0)) else (none)) else (none))
theorem gate_Mark.mono_l : ∀ k, (∀ y0 y1 y2 y3 y4, LeO (gate_Mark.l0 k y0 y1 y2 y3 y4) (gate_Mark.l0 (k + 1) y0 y1 y2 y3 y4))
 | 0 => fun _ _ _ _ _ r h => by simp [gate_Mark.l0] at h
 | k + 1 => by
  have B0 := gate_Mark.mono_l k
  ·intro y0 y1 y2 y3 y4
   unfold gate_Mark.l0
   repeat' first
   | (with_reducible exact B0 _ _ _ _ _)
   | (with_reducible exact num_Clamp.mono _ _ _ _)
   | (with_reducible exact slices_Contains_int_int.mono _ _ _)
   | (with_reducible exact LeO.refl _)
   | (with_reducible exact LeO.none _)
   | (with_reducible refine LeO.ite ?_ ?_)
   | (with_reducible refine LeO.bind ?_ (fun _ => ?_))
   | exact B0 _ _ _ _ _
   | exact num_Clamp.mono _ _ _ _
   | exact slices_Contains_int_int.mono _ _ _
   | exact LeO.none _
   | refine LeO.ite ?_ ?_
   | refine LeO.bind ?_ (fun _ => ?_)
theorem gate_Mark.mono : ∀ a0 a1 a2 k, LeO (gate_Mark.f k a0 a1 a2) (gate_Mark.f (k + 1) a0 a1 a2) := by
 intro a0 a1 a2 k
 have B0 := gate_Mark.mono_l k
 unfold gate_Mark.f
 repeat' first
   | (with_reducible exact B0 _ _ _ _ _)
   | (with_reducible exact num_Clamp.mono _ _ _ _)
   | (with_reducible exact slices_Contains_int_int.mono _ _ _)
   | (with_reducible exact LeO.refl _)
   | (with_reducible exact LeO.none _)
   | (with_reducible refine LeO.ite ?_ ?_)
   | (with_reducible refine LeO.bind ?_ (fun _ => ?_))
   | exact B0 _ _ _ _ _
   | exact num_Clamp.mono _ _ _ _
   | exact slices_Contains_int_int.mono _ _ _
   | exact LeO.none _
   | refine LeO.ite ?_ ?_
   | refine LeO.bind ?_ (fun _ => ?_)
set_option maxHeartbeats 8000000 in
set_option maxRecDepth 100000 in
theorem gate_Mark.calls (k : Nat) (a0 : ByteArray) (a1 : Int) (A2 : Option Addr) (c2 : Nat) (l2 : List Int) (r : ByteArray) (w : World) (E1 : Kd.C (Kd.int .i64) w A2 l2.length l2) (E2 : l2.length ≤ c2) (h : gate_Mark.f k a0 a1 l2 = some r) :
  Calls Try.prog 47 #[.string a0, .int .i64 a1, .slice A2 l2.length c2] w fun e w' => e = .returned (.string r) ∧ Below w.heap.size w w' := by
 have De := am_ E1
 have Df := am_ E2
 clear E1 E2
 have HB := am_ (Below.refl w.heap.size w)
 have H := h
 unfold gate_Mark.f at H
 clear h
 obtain ⟨Bc, A4, H⟩ := bes_ H
 try dsimp only at H
 by_cases c5 : 0 ≤ Bc
 ·rw [if_pos c5] at H
  have Dk := eq_true c5
  have Dl : decide (0 ≤ Bc) = true := decide_eq_true c5
  clear c5
  by_cases c6 : (Bc : Int).toNat ≤ 281474976710656
  ·rw [if_pos c6] at H
   have Dm := eq_true c6
   have Dn : decide ((Bc : Int).toNat ≤ 281474976710656) = true := decide_eq_true c6
   clear c6
   obtain ⟨y402, hy402⟩ : ∃ y_ : List Int, y_ = (List.replicate (Bc : Int).toNat 0) := ⟨_, rfl⟩
   replace H : (gate_Mark.l0 k a0 l2 y402 (y402.length : Int) 0) = some r := by first | (rw [hy402]; with_reducible exact H) | (have B9 := (Option.bind_some _ _).symm.trans H; rw [hy402]; with_reducible exact B9) | (have B9 := (Option.bind_some _ _).symm.trans H; with_reducible exact B9) | with_reducible exact H | (rw [hy402]; exact H) | exact H
   have Bm := am_ hy402
   clear hy402
   have H' := am_ H
   clear H
   go_enter Try.func47, Try.ntmps47
   go_wp2_with (first | ((with_reducible refine gate_callee (f := 52) rfl ?_); refine gom_ (some 10) Try.func52 (num_Clamp.calls k a1 0 64 _ _ A4.out) ?_; rintro e w' ⟨rfl, ⟨nd, rfl⟩⟩; refine ⟨_, rfl, ?_⟩) | ((with_reducible refine gate_dst (N := 11) rfl ?_); refine Kd.R_make (Kd.int .u8) _ 5 rfl (N := 11) rfl 80 _ _ rfl Bc rfl rfl Try.underlying80 (.int .u8 0) 1 info5 rfl (by decide) (by omega) 0 (ok := fun _ => True) (okp := fun _ => True) rfl (fun _ hk => hk) trivial (of_decide_eq_true (by first | (with_reducible assumption) | assumption)) (Nat.le_trans (Nat.mul_le_mul_right _ (of_decide_eq_true (by first | (with_reducible assumption) | assumption) : Bc.toNat ≤ 281474976710656)) (by omega)) (Below.refl _ _) (Nat.le_refl _) ?_; intro v403 w7 D4 hb hg_ hnew_; clear hg_ hnew_; (first | rw [← Bm.out] at D4 | (simp only [Int.reduceToNat] at D4; rw [← Bm.out] at D4)); have Do := below_of hb (by repeat (first | (with_reducible first | exact HB.out | apply ba_ | apply bn_ | apply bd_) | exact HB.out)); have Bn := am_ (Kd.R_lower D4 (below_size Do)); replace HB := am_ (below_step Do hb); clear Do; clear hb D4; obtain ⟨Ee, Bj, Ef⟩ := Kd.R_slice Bn.out; subst Ef))
   go_loopg [14] k (fun kq v14 w' => ∃ (B3 : List Int) (B0 : Int), v14 = .int .i64 B0 ∧ Aside0 (gate_Mark.l0 kq a0 l2 B3 (y402.length : Int) B0 = some r) ∧ Aside0 (kq ≤ k) ∧ Aside0 (Kd.R (Kd.int .u8) 5 w' w.heap.size (fun _ => True) (.slice Ee y402.length Bj) B3) ∧ Aside0 (Below w.heap.size w w'))
   case atStart => exact ⟨(y402), (0), (by first | rfl | (simp; done) | (simp [*]; done)), H', ⟨Nat.le_refl _⟩, ⟨by (with_reducible repeat (first | apply Kd.R_alloc | apply Kd.R_drewN | apply Kd.R_drew)); exact Bn.out⟩, ⟨by repeat (first | (with_reducible first | exact HB.out | apply ba_ | apply bn_ | apply bd_) | exact HB.out)⟩⟩
   case round =>
    clear H'
    try clear c2
    try clear p2
    try clear c4
    try clear c5
    try clear Dk
    try clear Dl
    try clear c6
    try clear Dm
    try clear Dn
    obtain ⟨B3, B0, rfl, HA, Bl, B1, HB⟩ := hrel
    have B4 := (Kd.R_reads' B1.out).1
    rw [B4] at B1
    (try simp only [B4])
    cases gk with
    | zero => exact absurd HA.out (by simp [gate_Mark.l0])
    | succ k1 =>
     have H := HA.out
     clear HA
     simp only [gate_Mark.l0] at H
     by_cases D2 : B0 < (y402.length : Int)
     ·rw [if_pos D2] at H
      have Bk : decide (B0 < (y402.length : Int)) = true := decide_eq_true D2
      have Ba := Bk; (try rw [B4] at Ba)
      clear D2
      by_cases Dg : 0 ≤ B0
      ·rw [if_pos Dg] at H
       have E3 : decide (0 ≤ B0) = true := decide_eq_true Dg
       clear Dg
       by_cases Dh : B0 < (B3.length : Int)
       ·rw [if_pos Dh] at H
        have E4 : decide (B0 < (B3.length : Int)) = true := decide_eq_true Dh
        clear Dh
        obtain ⟨y405, hy405⟩ : ∃ y_ : List Int, y_ = (B3.set (B0 : Int).toNat 48) := ⟨_, rfl⟩
        replace H : (if B0 < (a0.size : Int) then (if (bt a0 B0) = 49 then (gate_Mark.l0 k1 a0 l2 (y405.set (B0 : Int).toNat 49) (y402.length : Int) (wrap64 (B0 + 1))) else ((slices_Contains_int_int.f k1 l2 B0).bind fun Bq => (if Bq = true then (gate_Mark.l0 k1 a0 l2 (y405.set (B0 : Int).toNat 49) (y402.length : Int) (wrap64 (B0 + 1))) else (gate_Mark.l0 k1 a0 l2 y405 (y402.length : Int) (wrap64 (B0 + 1)))))) else ((slices_Contains_int_int.f k1 l2 B0).bind fun Br => (if Br = true then (gate_Mark.l0 k1 a0 l2 (y405.set (B0 : Int).toNat 49) (y402.length : Int) (wrap64 (B0 + 1))) else (gate_Mark.l0 k1 a0 l2 y405 (y402.length : Int) (wrap64 (B0 + 1)))))) = some r := by first | (rw [hy405]; with_reducible exact H) | (have B9 := (Option.bind_some _ _).symm.trans H; rw [hy405]; with_reducible exact B9) | (have B9 := (Option.bind_some _ _).symm.trans H; with_reducible exact B9) | with_reducible exact H | (rw [hy405]; exact H) | exact H
        have Bb := am_ hy405
        clear hy405
        by_cases D3 : B0 < (a0.size : Int)
        rw [if_pos D3] at H
        have D5 : decide (B0 < (a0.size : Int)) = true := decide_eq_true D3
        clear D3
        by_cases Bs : (bt a0 B0) = 49
        ·rw [if_pos Bs] at H
         have D6 : ((bt a0 B0) == 49) = true := beq_iff_eq.mpr Bs
         have D7 : ((bt a0 B0) != 49) = false := bne_eq_false_iff_eq.mpr Bs
         clear Bs
         obtain ⟨y406, hy406⟩ : ∃ y_ : List Int, y_ = (y405.set (B0 : Int).toNat 49) := ⟨_, rfl⟩
         replace H : (gate_Mark.l0 k1 a0 l2 y406 (y402.length : Int) (wrap64 (B0 + 1))) = some r := by first | (rw [hy406]; with_reducible exact H) | (have B9 := (Option.bind_some _ _).symm.trans H; rw [hy406]; with_reducible exact B9) | (have B9 := (Option.bind_some _ _).symm.trans H; with_reducible exact B9) | with_reducible exact H | (rw [hy406]; exact H) | exact H
         have D8 := am_ hy406
         clear hy406
         have H' := am_ H
         clear H
         have Bd : 0 ≤ (B0 : Int) := of_decide_eq_true (by first | (with_reducible assumption) | assumption)
         have Be : (B0 : Int) < ((B3.length : Int) : Int) := of_decide_eq_true (by first | (with_reducible assumption) | assumption)
         obtain ⟨B2, Bt, B5, B6, Bf, Bu, B7⟩ := Kd.R_form B1.out (by omega)
         (first | cases B5 | (injection B5 with ea_ en_ ec_; (first | subst ea_ | (injection ea_ with ea_; subst ea_)); subst ec_; clear en_))
         have B8 := am_ B6
         have Bv := am_ B7
         clear B6 Bf B7
         obtain ⟨Bg, Bh⟩ := Kd.R_celln 0 B1.out (B0 : Int) Bd Be
         replace Bd := eq_true Bd
         replace Be := eq_true Be
         have Bw := Kd.R_putg B1.out (B0 : Int) 48
         go_wp2_with (first | ((with_reducible refine gate_store (t := 5) (p := 19) rfl ?_); refine store_event (t := 5) (p := 19) (v := ?vo_w19) (w1 := (wr.setCell ⟨B2, (B0 : Int).toNat, none⟩ (.int .u8 48))) ?hg ?ho ?hn ?hr ?_; (case ho => rfl); (case hg => rfl); (case hn => rfl); (case hr => first | (go_simp; done) | (go_simp; rfl)); intro w19 hw; have hg : wr.grownBy w19 (some B2) := (by rw [hw]; exact Bw.2); have hp_ : Kd.R (Kd.int .u8) 5 w19 w.heap.size (fun _ => True) (.slice (some ⟨B2, 0, none⟩) B3.length Bj) y405 := (by rw [hw, Bb.out]; exact Bw.1); clear Bw; replace B1 := am_ (hp_); replace HB := am_ ((by rw [hw]; exact below_set (HB.out) B8.out : Below w.heap.size w w19)); clear hg hw hp_; have Bo : 0 ≤ (B0 : Int) := of_decide_eq_true (by first | (with_reducible assumption) | assumption); have Bp : B0 < (a0.size : Int) := of_decide_eq_true (by first | (with_reducible assumption) | assumption); have D9 := bt_at a0 B0; replace Bo := eq_true Bo; replace Bp := eq_true Bp; have Dp : 0 ≤ (B0 : Int) := of_decide_eq_true (by first | (with_reducible assumption) | assumption); have Dq : (B0 : Int) < ((B3.length : Int) : Int) := of_decide_eq_true (by first | (with_reducible assumption) | assumption); obtain ⟨Dr, Ds⟩ := Kd.R_celln 0 B1.out (B0 : Int) Dp Dq; replace Dp := eq_true Dp; replace Dq := eq_true Dq; obtain ⟨E5, E6⟩ := Kd.R_celln 0 B1.out (B0 : Int) (of_decide_eq_true (by first | (with_reducible assumption) | assumption)) (of_decide_eq_true (by first | (with_reducible assumption) | assumption)); have Bx := Kd.R_putg B1.out (B0 : Int) 49) | ((with_reducible refine gate_store (t := 5) (p := 37) rfl ?_); refine store_event (t := 5) (p := 37) (v := ?vo_w21) (w1 := (w19.setCell ⟨B2, (B0 : Int).toNat, none⟩ (.int .u8 49))) ?hg ?ho ?hn ?hr ?_; (case ho => rfl); (case hg => rfl); (case hn => rfl); (case hr => first | (go_simp; done) | (go_simp; rfl)); intro w21 hw; have hg : w19.grownBy w21 (some B2) := (by rw [hw]; exact Bx.2); have hp_ : Kd.R (Kd.int .u8) 5 w21 w.heap.size (fun _ => True) (.slice (some ⟨B2, 0, none⟩) B3.length Bj) y406 := (by rw [hw, D8.out]; exact Bx.1); clear Bx; replace B1 := am_ (hp_); replace HB := am_ ((by rw [hw]; exact below_set (HB.out) B8.out : Below w.heap.size w w21)); clear hg hw hp_))
         (try simp only [← B4])
         go_roundg k1
         case measure => have := Bl.out; omega
         case rel => exact ⟨(y406), (wrap64 (B0 + 1)), (by first | rfl | (simp; done) | (simp [*]; done)), H', ⟨by have := Bl.out; omega⟩, ⟨by (try simp only [B4]); (with_reducible repeat (first | apply Kd.R_alloc | apply Kd.R_drewN | apply Kd.R_drew)); exact B1.out⟩, ⟨by repeat (first | (with_reducible first | exact HB.out | apply ba_ | apply bn_ | apply bd_) | exact HB.out)⟩⟩
        rw [if_neg Bs] at H
        have D6 : ((bt a0 B0) == 49) = false := beq_eq_false_iff_ne.mpr Bs
        have D7 : ((bt a0 B0) != 49) = true := bne_iff_ne.mpr Bs
        obtain ⟨Bq, E7, H⟩ := bes_ H
        try dsimp only at H
        by_cases Di : Bq = true
        ·subst Di
         rw [if_pos rfl] at H
         obtain ⟨y408, hy408⟩ : ∃ y_ : List Int, y_ = (y405.set (B0 : Int).toNat 49) := ⟨_, rfl⟩
         replace H : (gate_Mark.l0 k1 a0 l2 y408 (y402.length : Int) (wrap64 (B0 + 1))) = some r := by first | (rw [hy408]; with_reducible exact H) | (have B9 := (Option.bind_some _ _).symm.trans H; rw [hy408]; with_reducible exact B9) | (have B9 := (Option.bind_some _ _).symm.trans H; with_reducible exact B9) | with_reducible exact H | (rw [hy408]; exact H) | exact H
         have Da := am_ hy408
         clear hy408
         have H' := am_ H
         clear H
         have Bd : 0 ≤ (B0 : Int) := of_decide_eq_true (by first | (with_reducible assumption) | assumption)
         have Be : (B0 : Int) < ((B3.length : Int) : Int) := of_decide_eq_true (by first | (with_reducible assumption) | assumption)
         obtain ⟨B2, Bt, B5, B6, Bf, Bu, B7⟩ := Kd.R_form B1.out (by omega)
         (first | cases B5 | (injection B5 with ea_ en_ ec_; (first | subst ea_ | (injection ea_ with ea_; subst ea_)); subst ec_; clear en_))
         have B8 := am_ B6
         have Bv := am_ B7
         clear B6 Bf B7
         obtain ⟨Bg, Bh⟩ := Kd.R_celln 0 B1.out (B0 : Int) Bd Be
         replace Bd := eq_true Bd
         replace Be := eq_true Be
         have By := Kd.R_putg B1.out (B0 : Int) 48
         go_wp2_with (first | ((with_reducible refine gate_store (t := 5) (p := 19) rfl ?_); refine store_event (t := 5) (p := 19) (v := ?vo_w26) (w1 := (wr.setCell ⟨B2, (B0 : Int).toNat, none⟩ (.int .u8 48))) ?hg ?ho ?hn ?hr ?_; (case ho => rfl); (case hg => rfl); (case hn => rfl); (case hr => first | (go_simp; done) | (go_simp; rfl)); intro w26 hw; have hg : wr.grownBy w26 (some B2) := (by rw [hw]; exact By.2); have hp_ : Kd.R (Kd.int .u8) 5 w26 w.heap.size (fun _ => True) (.slice (some ⟨B2, 0, none⟩) B3.length Bj) y405 := (by rw [hw, Bb.out]; exact By.1); clear By; replace B1 := am_ (hp_); replace HB := am_ ((by rw [hw]; exact below_set (HB.out) B8.out : Below w.heap.size w w26)); clear hg hw hp_; have Bo : 0 ≤ (B0 : Int) := of_decide_eq_true (by first | (with_reducible assumption) | assumption); have Bp : B0 < (a0.size : Int) := of_decide_eq_true (by first | (with_reducible assumption) | assumption); have D9 := bt_at a0 B0; replace Bo := eq_true Bo; replace Bp := eq_true Bp) | (go_at_call 49; (with_reducible refine (slices_Contains_int_int.calls k1 _ _ l2 B0 _ _ ?side1 Df.out E7.out).mono ?_); (case side1 => repeat (first | exact (Kd.C_below De.out HB.out) | (with_reducible refine Kd.C_alloc ?_ _) | (with_reducible refine Kd.C_drewN ?_ _) | (with_reducible refine Kd.C_drew ?_))); rintro e w' ⟨rfl, ⟨nd, rfl⟩⟩; (try (rw [drewN_self w26]; generalize hq_ : World.drewN w26 _ = w26; have Db : Aside0 (Kd.R (Kd.int .u8) 5 w26 w.heap.size (fun _ => True) (.slice (some ⟨B2, 0, none⟩) B3.length Bj) y405) := ⟨by rw [← hq_]; exact (by (with_reducible repeat (first | apply Kd.R_alloc | apply Kd.R_drewN | apply Kd.R_drew)); exact B1.out)⟩; have Dc : Aside0 (Below w.heap.size w w26) := ⟨by rw [← hq_]; exact (by repeat (first | (with_reducible first | exact HB.out | apply ba_ | apply bn_ | apply bd_) | exact HB.out))⟩; clear B1 HB hq_; have B1 := Db; have HB := Dc; clear Db Dc)); have Dt : 0 ≤ (B0 : Int) := of_decide_eq_true (by first | (with_reducible assumption) | assumption); have Du : (B0 : Int) < ((B3.length : Int) : Int) := of_decide_eq_true (by first | (with_reducible assumption) | assumption); obtain ⟨Dv, Dw⟩ := Kd.R_celln 0 B1.out (B0 : Int) Dt Du; replace Dt := eq_true Dt; replace Du := eq_true Du; obtain ⟨E8, E9⟩ := Kd.R_celln 0 B1.out (B0 : Int) (of_decide_eq_true (by first | (with_reducible assumption) | assumption)) (of_decide_eq_true (by first | (with_reducible assumption) | assumption)); have Bz := Kd.R_putg B1.out (B0 : Int) 49) | ((with_reducible refine gate_store (t := 5) (p := 37) rfl ?_); refine store_event (t := 5) (p := 37) (v := ?vo_w28) (w1 := (w26.setCell ⟨B2, (B0 : Int).toNat, none⟩ (.int .u8 49))) ?hg ?ho ?hn ?hr ?_; (case ho => rfl); (case hg => rfl); (case hn => rfl); (case hr => first | (go_simp; done) | (go_simp; rfl)); intro w28 hw; have hg : w26.grownBy w28 (some B2) := (by rw [hw]; exact Bz.2); have hp_ : Kd.R (Kd.int .u8) 5 w28 w.heap.size (fun _ => True) (.slice (some ⟨B2, 0, none⟩) B3.length Bj) y408 := (by rw [hw, Da.out]; exact Bz.1); clear Bz; replace B1 := am_ (hp_); replace HB := am_ ((by rw [hw]; exact below_set (HB.out) B8.out : Below w.heap.size w w28)); clear hg hw hp_))
         (try simp only [← B4])
         go_roundg k1
         case measure => have := Bl.out; omega
         case rel => exact ⟨(y408), (wrap64 (B0 + 1)), (by first | rfl | (simp; done) | (simp [*]; done)), H', ⟨by have := Bl.out; omega⟩, ⟨by (try simp only [B4]); (with_reducible repeat (first | apply Kd.R_alloc | apply Kd.R_drewN | apply Kd.R_drew)); exact B1.out⟩, ⟨by repeat (first | (with_reducible first | exact HB.out | apply ba_ | apply bn_ | apply bd_) | exact HB.out)⟩⟩
        replace Di := Bool.eq_false_iff.mpr Di
        subst Di
        rw [if_neg (show ¬ (false = true) by decide)] at H
        rotate_left
        rw [if_neg D3] at H
        have D5 : decide (B0 < (a0.size : Int)) = false := decide_eq_false D3
        clear D3
        obtain ⟨Br, Ea, H⟩ := bes_ H
        try dsimp only at H
        by_cases Dj : Br = true
        ·subst Dj
         rw [if_pos rfl] at H
         obtain ⟨y410, hy410⟩ : ∃ y_ : List Int, y_ = (y405.set (B0 : Int).toNat 49) := ⟨_, rfl⟩
         replace H : (gate_Mark.l0 k1 a0 l2 y410 (y402.length : Int) (wrap64 (B0 + 1))) = some r := by first | (rw [hy410]; with_reducible exact H) | (have B9 := (Option.bind_some _ _).symm.trans H; rw [hy410]; with_reducible exact B9) | (have B9 := (Option.bind_some _ _).symm.trans H; with_reducible exact B9) | with_reducible exact H | (rw [hy410]; exact H) | exact H
         have Dd := am_ hy410
         clear hy410
         have H' := am_ H
         clear H
         have Bd : 0 ≤ (B0 : Int) := of_decide_eq_true (by first | (with_reducible assumption) | assumption)
         have Be : (B0 : Int) < ((B3.length : Int) : Int) := of_decide_eq_true (by first | (with_reducible assumption) | assumption)
         obtain ⟨B2, Bt, B5, B6, Bf, Bu, B7⟩ := Kd.R_form B1.out (by omega)
         (first | cases B5 | (injection B5 with ea_ en_ ec_; (first | subst ea_ | (injection ea_ with ea_; subst ea_)); subst ec_; clear en_))
         have B8 := am_ B6
         have Bv := am_ B7
         clear B6 Bf B7
         obtain ⟨Bg, Bh⟩ := Kd.R_celln 0 B1.out (B0 : Int) Bd Be
         replace Bd := eq_true Bd
         replace Be := eq_true Be
         have D0 := Kd.R_putg B1.out (B0 : Int) 48
         go_wp2_with (first | ((with_reducible refine gate_store (t := 5) (p := 19) rfl ?_); refine store_event (t := 5) (p := 19) (v := ?vo_w35) (w1 := (wr.setCell ⟨B2, (B0 : Int).toNat, none⟩ (.int .u8 48))) ?hg ?ho ?hn ?hr ?_; (case ho => rfl); (case hg => rfl); (case hn => rfl); (case hr => first | (go_simp; done) | (go_simp; rfl)); intro w35 hw; have hg : wr.grownBy w35 (some B2) := (by rw [hw]; exact D0.2); have hp_ : Kd.R (Kd.int .u8) 5 w35 w.heap.size (fun _ => True) (.slice (some ⟨B2, 0, none⟩) B3.length Bj) y405 := (by rw [hw, Bb.out]; exact D0.1); clear D0; replace B1 := am_ (hp_); replace HB := am_ ((by rw [hw]; exact below_set (HB.out) B8.out : Below w.heap.size w w35)); clear hg hw hp_) | (go_at_call 49; (with_reducible refine (slices_Contains_int_int.calls k1 _ _ l2 B0 _ _ ?side1 Df.out Ea.out).mono ?_); (case side1 => repeat (first | exact (Kd.C_below De.out HB.out) | (with_reducible refine Kd.C_alloc ?_ _) | (with_reducible refine Kd.C_drewN ?_ _) | (with_reducible refine Kd.C_drew ?_))); rintro e w' ⟨rfl, ⟨nd, rfl⟩⟩; (try (rw [drewN_self w35]; generalize hq_ : World.drewN w35 _ = w35; have Db : Aside0 (Kd.R (Kd.int .u8) 5 w35 w.heap.size (fun _ => True) (.slice (some ⟨B2, 0, none⟩) B3.length Bj) y405) := ⟨by rw [← hq_]; exact (by (with_reducible repeat (first | apply Kd.R_alloc | apply Kd.R_drewN | apply Kd.R_drew)); exact B1.out)⟩; have Dc : Aside0 (Below w.heap.size w w35) := ⟨by rw [← hq_]; exact (by repeat (first | (with_reducible first | exact HB.out | apply ba_ | apply bn_ | apply bd_) | exact HB.out))⟩; clear B1 HB hq_; have B1 := Db; have HB := Dc; clear Db Dc)); have Dx : 0 ≤ (B0 : Int) := of_decide_eq_true (by first | (with_reducible assumption) | assumption); have Dy : (B0 : Int) < ((B3.length : Int) : Int) := of_decide_eq_true (by first | (with_reducible assumption) | assumption); obtain ⟨Dz, E0⟩ := Kd.R_celln 0 B1.out (B0 : Int) Dx Dy; replace Dx := eq_true Dx; replace Dy := eq_true Dy; obtain ⟨Eb, Ec⟩ := Kd.R_celln 0 B1.out (B0 : Int) (of_decide_eq_true (by first | (with_reducible assumption) | assumption)) (of_decide_eq_true (by first | (with_reducible assumption) | assumption)); have D1 := Kd.R_putg B1.out (B0 : Int) 49) | ((with_reducible refine gate_store (t := 5) (p := 37) rfl ?_); refine store_event (t := 5) (p := 37) (v := ?vo_w37) (w1 := (w35.setCell ⟨B2, (B0 : Int).toNat, none⟩ (.int .u8 49))) ?hg ?ho ?hn ?hr ?_; (case ho => rfl); (case hg => rfl); (case hn => rfl); (case hr => first | (go_simp; done) | (go_simp; rfl)); intro w37 hw; have hg : w35.grownBy w37 (some B2) := (by rw [hw]; exact D1.2); have hp_ : Kd.R (Kd.int .u8) 5 w37 w.heap.size (fun _ => True) (.slice (some ⟨B2, 0, none⟩) B3.length Bj) y410 := (by rw [hw, Dd.out]; exact D1.1); clear D1; replace B1 := am_ (hp_); replace HB := am_ ((by rw [hw]; exact below_set (HB.out) B8.out : Below w.heap.size w w37)); clear hg hw hp_))
         (try simp only [← B4])
         go_roundg k1
         case measure => have := Bl.out; omega
         case rel => exact ⟨(y410), (wrap64 (B0 + 1)), (by first | rfl | (simp; done) | (simp [*]; done)), H', ⟨by have := Bl.out; omega⟩, ⟨by (try simp only [B4]); (with_reducible repeat (first | apply Kd.R_alloc | apply Kd.R_drewN | apply Kd.R_drew)); exact B1.out⟩, ⟨by repeat (first | (with_reducible first | exact HB.out | apply ba_ | apply bn_ | apply bd_) | exact HB.out)⟩⟩
        replace Dj := Bool.eq_false_iff.mpr Dj
        subst Dj
        rw [if_neg (show ¬ (false = true) by decide)] at H
        rotate_left
        all_goals
         have H' := am_ H
         clear H
         have Bd : 0 ≤ (B0 : Int) := of_decide_eq_true (by first | (with_reducible assumption) | assumption)
         have Be : (B0 : Int) < ((B3.length : Int) : Int) := of_decide_eq_true (by first | (with_reducible assumption) | assumption)
         obtain ⟨B2, Bt, B5, B6, Bf, Bu, B7⟩ := Kd.R_form B1.out (by omega)
         (first | cases B5 | (injection B5 with ea_ en_ ec_; (first | subst ea_ | (injection ea_ with ea_; subst ea_)); subst ec_; clear en_))
         have B8 := am_ B6
         have Bv := am_ B7
         clear B6 Bf B7
         obtain ⟨Bg, Bh⟩ := Kd.R_celln 0 B1.out (B0 : Int) Bd Be
         replace Bd := eq_true Bd
         replace Be := eq_true Be
         have Bi := Kd.R_putg B1.out (B0 : Int) 48
        ·go_wp2_with (first | ((with_reducible refine gate_store (t := 5) (p := 19) rfl ?_); refine store_event (t := 5) (p := 19) (v := ?vo_w30) (w1 := (wr.setCell ⟨B2, (B0 : Int).toNat, none⟩ (.int .u8 48))) ?hg ?ho ?hn ?hr ?_; (case ho => rfl); (case hg => rfl); (case hn => rfl); (case hr => first | (go_simp; done) | (go_simp; rfl)); intro w30 hw; have hg : wr.grownBy w30 (some B2) := (by rw [hw]; exact Bi.2); have hp_ : Kd.R (Kd.int .u8) 5 w30 w.heap.size (fun _ => True) (.slice (some ⟨B2, 0, none⟩) B3.length Bj) y405 := (by rw [hw, Bb.out]; exact Bi.1); clear Bi; replace B1 := am_ (hp_); replace HB := am_ ((by rw [hw]; exact below_set (HB.out) B8.out : Below w.heap.size w w30)); clear hg hw hp_; have Bo : 0 ≤ (B0 : Int) := of_decide_eq_true (by first | (with_reducible assumption) | assumption); have Bp : B0 < (a0.size : Int) := of_decide_eq_true (by first | (with_reducible assumption) | assumption); have D9 := bt_at a0 B0; replace Bo := eq_true Bo; replace Bp := eq_true Bp) | (go_at_call 49; (with_reducible refine (slices_Contains_int_int.calls k1 _ _ l2 B0 _ _ ?side1 Df.out E7.out).mono ?_); (case side1 => repeat (first | exact (Kd.C_below De.out HB.out) | (with_reducible refine Kd.C_alloc ?_ _) | (with_reducible refine Kd.C_drewN ?_ _) | (with_reducible refine Kd.C_drew ?_))); rintro e w' ⟨rfl, ⟨nd, rfl⟩⟩))
         (try simp only [← B4])
         go_roundg k1
         case measure => have := Bl.out; omega
         case rel => exact ⟨(y405), (wrap64 (B0 + 1)), (by first | rfl | (simp; done) | (simp [*]; done)), H', ⟨by have := Bl.out; omega⟩, ⟨by (try simp only [B4]); (with_reducible repeat (first | apply Kd.R_alloc | apply Kd.R_drewN | apply Kd.R_drew)); exact B1.out⟩, ⟨by repeat (first | (with_reducible first | exact HB.out | apply ba_ | apply bn_ | apply bd_) | exact HB.out)⟩⟩
        ·go_wp2_with (first | ((with_reducible refine gate_store (t := 5) (p := 19) rfl ?_); refine store_event (t := 5) (p := 19) (v := ?vo_w39) (w1 := (wr.setCell ⟨B2, (B0 : Int).toNat, none⟩ (.int .u8 48))) ?hg ?ho ?hn ?hr ?_; (case ho => rfl); (case hg => rfl); (case hn => rfl); (case hr => first | (go_simp; done) | (go_simp; rfl)); intro w39 hw; have hg : wr.grownBy w39 (some B2) := (by rw [hw]; exact Bi.2); have hp_ : Kd.R (Kd.int .u8) 5 w39 w.heap.size (fun _ => True) (.slice (some ⟨B2, 0, none⟩) B3.length Bj) y405 := (by rw [hw, Bb.out]; exact Bi.1); clear Bi; replace B1 := am_ (hp_); replace HB := am_ ((by rw [hw]; exact below_set (HB.out) B8.out : Below w.heap.size w w39)); clear hg hw hp_) | (go_at_call 49; (with_reducible refine (slices_Contains_int_int.calls k1 _ _ l2 B0 _ _ ?side1 Df.out Ea.out).mono ?_); (case side1 => repeat (first | exact (Kd.C_below De.out HB.out) | (with_reducible refine Kd.C_alloc ?_ _) | (with_reducible refine Kd.C_drewN ?_ _) | (with_reducible refine Kd.C_drew ?_))); rintro e w' ⟨rfl, ⟨nd, rfl⟩⟩))
         (try simp only [← B4])
         go_roundg k1
         case measure => have := Bl.out; omega
         case rel => exact ⟨(y405), (wrap64 (B0 + 1)), (by first | rfl | (simp; done) | (simp [*]; done)), H', ⟨by have := Bl.out; omega⟩, ⟨by (try simp only [B4]); (with_reducible repeat (first | apply Kd.R_alloc | apply Kd.R_drewN | apply Kd.R_drew)); exact B1.out⟩, ⟨by repeat (first | (with_reducible first | exact HB.out | apply ba_ | apply bn_ | apply bd_) | exact HB.out)⟩⟩
       ·rw [if_neg Dh] at H
        exact absurd H (by simp)
      ·rw [if_neg Dg] at H
       exact absurd H (by simp)
     ·rw [if_neg D2] at H
      have Bk : decide (B0 < (y402.length : Int)) = false := decide_eq_false D2
      have Ba := Bk; (try rw [B4] at Ba)
      clear D2
      obtain rfl := Option.some.inj H
      have Ed := own_string (P := Try.prog) Try.underlying80 Try.underlying5 Try.underlying9 (Kd.own_of_R B1.out)
      go_wp2
      go_ret
      exact ⟨by first | rfl | (simp [*] <;> rfl), by repeat (first | (with_reducible first | exact HB.out | apply ba_ | apply bn_ | apply bd_) | exact HB.out)⟩
  ·rw [if_neg c6] at H
   exact absurd H (by simp)
 ·rw [if_neg c5] at H
  exact absurd H (by simp)
end Go.Proofs.Ytdnccjlfongdeaa.Gn
