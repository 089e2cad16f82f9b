import Derived.Test.YtdnccjlfongdeaaZRoundOnlyGn0
import Derived.Test.YtdnccjlfongdeaaZRoundOnlyGn2
import Derived.Test.YtdnccjlfongdeaaZRoundOnlyGn10
namespace Go.Proofs.Ytdnccjlfongdeaa.Gn
open Go.RowKit Go.Proofs.YtdnccjlfongdeaaW.PrintWords Go.Proofs.YtdnccjlfongdeaaW.PrintLast Go.Proofs.YtdnccjlfongdeaaW.PrintMore
attribute [local go_sem] max2_int min2_int max_two min_two max_three min_three max_four min_four   -- for this text's walks alone
set_option linter.unusedVariables false
set_option linter.unusedSimpArgs false
mutual
def round_machine_sizes.j0 : Nat → Bool → Int → Int → Int → Int → Int → Int → Int → Int → Int → Int → List Int → List Int → Int → ByteArray → List ByteArray → List (List (S45)) → Option (Bool)
 | 0, _, _, _, _, _, _, _, _, _, _, _, _, _, _, _, _, _ => none
 | k + 1, Bj, B1, B3, B4, B5, B6, B7, B8, B9, Ba, Bb, Bc, Bd, Be, Bf, B0, B2 => if Bj = true then (some false) else (round_machine_sizes.l0 k B1 0 B1 B3 B4 B5 B6 B7 B8 B9 Ba Bb Bc Bd Be Bf B0 B2)
def round_machine_sizes.l0 : Nat → Int → Int → Int → Int → Int → Int → Int → Int → Int → Int → Int → Int → List Int → List Int → Int → ByteArray → List ByteArray → List (List (S45)) → Option (Bool)
 | 0, _, _, _, _, _, _, _, _, _, _, _, _, _, _, _, _, _, _ => none
 | k + 1, Bh, Bg, B1, B3, B4, B5, B6, B7, B8, B9, Ba, Bb, Bc, Bd, Be, Bf, B0, B2 => if Bg < Bh then (if 0 ≤ Bg then (if Bg < (B0.length : Int) then (if ((rdOf ByteArray.empty B0 Bg).size : Int) > 16 then (some false) else ((round_machine_lies.f k B1 B3 B4 B5 B6 B7 B8 B9 Ba Bb Bc Bd Bg).bind fun Bi => (if Bi = true then (if (rdOf ByteArray.empty B0 Bg).toList = ([] : List UInt8) then (if Bg < (B2.length : Int) then (if ((rd_L3 B2 Bg).length : Int) > 0 then (some false) else (round_machine_sizes.l0 k Bh (wrap64 (Bg + 1)) B1 B3 B4 B5 B6 B7 B8 B9 Ba Bb Bc Bd Be Bf B0 B2)) else (none)) else (some false)) else (round_machine_sizes.l0 k Bh (wrap64 (Bg + 1)) B1 B3 B4 B5 B6 B7 B8 B9 Ba Bb Bc Bd Be Bf B0 B2)))) else (none)) else (none)) else (some true)
end
def round_machine_sizes.f (k : Nat) (B0 B5 B6 B7 B8 B9 Ba Bb Bc Bd : Int) (B1 B2 : List Int) (Be : Int) (Bf : ByteArray) (B3 : List ByteArray) (B4 : List (List (S45))) : Option (Bool) := if (B3.length : Int) = B0 then (round_machine_sizes.j0 k ((B4.length : Int) != B0) B0 B5 B6 B7 B8 B9 Ba Bb Bc Bd B1 B2 Be Bf B3 B4) else (round_machine_sizes.j0 k true B0 B5 B6 B7 B8 B9 Ba Bb Bc Bd B1 B2 Be Bf B3 B4)
theorem round_machine_sizes.mono_l : ∀ k, (∀ y0 y1 y2 y3 y4 y5 y6 y7 y8 y9 B0 B1 B2 B3 B4 B5 B6, LeO (round_machine_sizes.j0 k y0 y1 y2 y3 y4 y5 y6 y7 y8 y9 B0 B1 B2 B3 B4 B5 B6) (round_machine_sizes.j0 (k + 1) y0 y1 y2 y3 y4 y5 y6 y7 y8 y9 B0 B1 B2 B3 B4 B5 B6)) ∧ (∀ y0 y1 y2 y3 y4 y5 y6 y7 y8 y9 B0 B1 B2 B3 B4 B5 B6 B9, LeO (round_machine_sizes.l0 k y0 y1 y2 y3 y4 y5 y6 y7 y8 y9 B0 B1 B2 B3 B4 B5 B6 B9) (round_machine_sizes.l0 (k + 1) y0 y1 y2 y3 y4 y5 y6 y7 y8 y9 B0 B1 B2 B3 B4 B5 B6 B9))
 | 0 => ⟨fun _ _ _ _ _ _ _ _ _ _ _ _ _ _ _ _ _ r h => by simp [round_machine_sizes.j0] at h, fun _ _ _ _ _ _ _ _ _ _ _ _ _ _ _ _ _ _ r h => by simp [round_machine_sizes.l0] at h⟩
 | k + 1 => by
  obtain ⟨B7, B8⟩ := round_machine_sizes.mono_l k
  refine ⟨?_, ?_⟩
  ·intro y0 y1 y2 y3 y4 y5 y6 y7 y8 y9 B0 B1 B2 B3 B4 B5 B6
   unfold round_machine_sizes.j0
   repeat' first
   | (with_reducible exact B7 _ _ _ _ _ _ _ _ _ _ _ _ _ _ _ _ _)
   | (with_reducible exact B8 _ _ _ _ _ _ _ _ _ _ _ _ _ _ _ _ _ _)
   | (with_reducible exact round_machine_lies.mono _ _ _ _ _ _ _ _ _ _ _ _ _ _)
   | (with_reducible exact LeO.refl _)
   | (with_reducible exact LeO.none _)
   | (with_reducible refine LeO.ite ?_ ?_)
   | (with_reducible refine LeO.bind ?_ (fun _ => ?_))
   | exact B7 _ _ _ _ _ _ _ _ _ _ _ _ _ _ _ _ _
   | exact B8 _ _ _ _ _ _ _ _ _ _ _ _ _ _ _ _ _ _
   | exact round_machine_lies.mono _ _ _ _ _ _ _ _ _ _ _ _ _ _
   | exact LeO.none _
   | refine LeO.ite ?_ ?_
   | refine LeO.bind ?_ (fun _ => ?_)
  ·intro y0 y1 y2 y3 y4 y5 y6 y7 y8 y9 B0 B1 B2 B3 B4 B5 B6 B9
   unfold round_machine_sizes.l0
   repeat' first
   | (with_reducible exact B7 _ _ _ _ _ _ _ _ _ _ _ _ _ _ _ _ _)
   | (with_reducible exact B8 _ _ _ _ _ _ _ _ _ _ _ _ _ _ _ _ _ _)
   | (with_reducible exact round_machine_lies.mono _ _ _ _ _ _ _ _ _ _ _ _ _ _)
   | (with_reducible exact LeO.refl _)
   | (with_reducible exact LeO.none _)
   | (with_reducible refine LeO.ite ?_ ?_)
   | (with_reducible refine LeO.bind ?_ (fun _ => ?_))
   | exact B7 _ _ _ _ _ _ _ _ _ _ _ _ _ _ _ _ _
   | exact B8 _ _ _ _ _ _ _ _ _ _ _ _ _ _ _ _ _ _
   | exact round_machine_lies.mono _ _ _ _ _ _ _ _ _ _ _ _ _ _
   | exact LeO.none _
   | refine LeO.ite ?_ ?_
   | refine LeO.bind ?_ (fun _ => ?_)
theorem round_machine_sizes.mono : ∀ a0 a1 a2 a3 a4 a5 a6 a7 a8 a9 B0 B1 B2 B3 B4 B5 k, LeO (round_machine_sizes.f k a0 a1 a2 a3 a4 a5 a6 a7 a8 a9 B0 B1 B2 B3 B4 B5) (round_machine_sizes.f (k + 1) a0 a1 a2 a3 a4 a5 a6 a7 a8 a9 B0 B1 B2 B3 B4 B5) := by
 intro a0 a1 a2 a3 a4 a5 a6 a7 a8 a9 B0 B1 B2 B3 B4 B5 k
 obtain ⟨B6, B7⟩ := round_machine_sizes.mono_l k
 unfold round_machine_sizes.f
 repeat' first
   | (with_reducible exact B6 _ _ _ _ _ _ _ _ _ _ _ _ _ _ _ _ _)
   | (with_reducible exact B7 _ _ _ _ _ _ _ _ _ _ _ _ _ _ _ _ _ _)
   | (with_reducible exact round_machine_lies.mono _ _ _ _ _ _ _ _ _ _ _ _ _ _)
   | (with_reducible exact LeO.refl _)
   | (with_reducible exact LeO.none _)
   | (with_reducible refine LeO.ite ?_ ?_)
   | (with_reducible refine LeO.bind ?_ (fun _ => ?_))
   | exact B6 _ _ _ _ _ _ _ _ _ _ _ _ _ _ _ _ _
   | exact B7 _ _ _ _ _ _ _ _ _ _ _ _ _ _ _ _ _ _
   | exact round_machine_lies.mono _ _ _ _ _ _ _ _ _ _ _ _ _ _
   | exact LeO.none _
   | refine LeO.ite ?_ ?_
   | refine LeO.bind ?_ (fun _ => ?_)
set_option maxHeartbeats 8000000 in
set_option maxRecDepth 100000 in
theorem round_machine_sizes.calls (k : Nat) (Bc Br Bs Bt Bu Bv Bw Bx By Bz : Int) (D9 : Option Addr) (Da : Nat) (Ba : List Int) (Db : Option Addr) (Dc : Nat) (Bb : List Int) (Bi : Int) (Bj : ByteArray) (Bn : Option Addr) (Bo : Nat) (B4 : List ByteArray) (Bp : Option Addr) (Bq : Nat) (B9 : List (List (S45))) (r : Bool) (w : World) (Dq : Kd.C (Kd.int .i64) w D9 Ba.length Ba) (Dr : Ba.length ≤ Da) (Ds : Kd.C (Kd.int .i64) w Db Bb.length Bb) (Dt : Bb.length ≤ Dc) (E6 : Kd.C Kd.string w Bn B4.length B4) (E7 : B4.length ≤ Bo) (E8 : Kd.C (Kd.slice 45 k45) w Bp B9.length B9) (E9 : B9.length ≤ Bq) (h : round_machine_sizes.f k Bc Br Bs Bt Bu Bv Bw Bx By Bz Ba Bb Bi Bj B4 B9 = some r) :
  Calls Try.prog 36 #[.agg #[.int .i64 Bc, .int .i64 Br, .int .i64 Bs, .int .i64 Bt, .int .i64 Bu, .int .i64 Bv, .int .i64 Bw, .int .i64 Bx, .int .i64 By, .int .i64 Bz, .slice D9 Ba.length Da, .slice Db Bb.length Dc], .agg #[.int .i64 Bi, .string Bj, .slice Bn B4.length Bo, .slice Bp B9.length Bq]] w fun e w' => e = .returned (.bool r) ∧ Below w.heap.size w w' := by
 have Je := Try.underlying32
 have D4 := am_ Dq
 have D5 := am_ Dr
 clear Dq Dr
 have D6 := am_ Ds
 have D7 := am_ Dt
 clear Ds Dt
 have Bm := am_ E6
 have Ge := am_ E7
 clear E6 E7
 have Ea := am_ E8
 have Gf := am_ E9
 clear E8 E9
 have HB := am_ (Below.refl w.heap.size w)
 have H := h
 unfold round_machine_sizes.f at H
 clear h
 have Gc := am_ H
 clear H
 go_enter Try.func36, Try.ntmps36
 go_upto_region 1 with (first | ((with_reducible refine gate_load (t := 47) (x := .tmp 2) rfl ?_); refine lrg_ 47 (.tmp 2) D0 47 (by exact B2.out) Try.underlying47 ?_) | ((with_reducible refine gate_dst (N := 2) rfl ?_); (try (refine gate_guard (by rfl) ?_; dsimp only)); refine bxe_ 2 47 #[.int .i64 Bc, .int .i64 Br, .int .i64 Bs, .int .i64 Bt, .int .i64 Bu, .int .i64 Bv, .int .i64 Bw, .int .i64 Bx, .int .i64 By, .int .i64 Bz, .slice D9 Ba.length Da, .slice Db Bb.length Dc] ?_; intro D0 hg w4 hbox hb; have B2 := am_ (hbox); have Ek := gwk_ HB hg; have Bg := Ek; replace HB := bst_ HB hb; clear hb hbox hg) | ((with_reducible refine gate_dst (N := 3) rfl ?_); (try (refine gate_guard (by rfl) ?_; dsimp only)); refine bxe_ 3 32 #[.int .i64 Bi, .string Bj, .slice Bn B4.length Bo, .slice Bp B9.length Bq] ?_; intro B5 hg w5 hbox hb; have B0 := am_ (hbox); have El := gwk_ HB hg; have Bh := El; replace HB := bst_ HB hb; have B6 := nbk_ B2 hg; have B7 := nbs_ B6; replace B2 := bkb_ B2 hb; clear hb hbox hg))
 (try simp only [Act.put, zs_])
 go_cut [21] (fun v21 wc => ∃ (kq : Nat) (Dh : Bool), v21 = .bool Dh ∧ Aside0 (round_machine_sizes.j0 kq Dh Bc Br Bs Bt Bu Bv Bw Bx By Bz Ba Bb Bi Bj B4 B9 = some r) ∧ Aside0 (kq ≤ k) ∧ Aside0 (wc.heap[D0]? = some (.cells #[.int .i64 Bc, .int .i64 Br, .int .i64 Bs, .int .i64 Bt, .int .i64 Bu, .int .i64 Bv, .int .i64 Bw, .int .i64 Bx, .int .i64 By, .int .i64 Bz, (.slice D9 Ba.length Da), (.slice Db Bb.length Dc)] 47 (0, 0))) ∧ Aside0 (wc.heap[B5]? = some (.cells #[.int .i64 Bi, .string Bj, (.slice Bn B4.length Bo), (.slice Bp B9.length Bq)] 32 (0, 0))) ∧ Aside0 (Below w.heap.size w wc))
 case first =>
  have H := Gc.out
  clear Gc
  by_cases c6 : (B4.length : Int) = Bc
  ·rw [if_pos c6] at H
   have De : ((B4.length : Int) == Bc) = true := beq_iff_eq.mpr c6
   have Ed : ((B4.length : Int) != Bc) = false := bne_eq_false_iff_eq.mpr c6
   clear c6
   (first | rw [De] | (simp only [i64_w, i32_w]; rw [De]) | skip)
   have H' := am_ H
   clear H
   have Jf := B7.out
   have Jg := B6.out
   have Du : w5.cell? ⟨B5, 0, none⟩ = some (.int .i64 Bi) := (blk_cell B0.out 0).trans rfl
   have Dv : w5.cell? ⟨B5, 1, none⟩ = some (.string Bj) := (blk_cell B0.out 1).trans rfl
   have Dw : w5.cell? ⟨B5, 2, none⟩ = some (.slice Bn B4.length Bo) := (blk_cell B0.out 2).trans rfl
   have Dx : w5.cell? ⟨B5, 3, none⟩ = some (.slice Bp B9.length Bq) := (blk_cell B0.out 3).trans rfl
   have Dy := blk_frozen B0.out 0
   have Dz := blk_frozen B0.out 1
   have E0 := blk_frozen B0.out 2
   have E1 := blk_frozen B0.out 3
   have Em := cells_12 B2.out
   have En := frozen_12 B2.out
   go_wp2
   go_meet
   case rel => exact ⟨_, (((B9.length : Int) != Bc)), (by first | rfl | (simp; done) | (simp [*]; done)), H', ⟨by first | omega | exact Nat.le_refl _⟩, ⟨by (with_reducible repeat (first | apply kn_ | apply kd_ | apply ka_)); exact B2.out⟩, ⟨by (with_reducible repeat (first | apply kn_ | apply kd_ | apply ka_)); exact B0.out⟩, ⟨by repeat (first | (with_reducible first | exact HB.out | apply ba_ | apply bn_ | apply bd_ | refine bs_ ?_ Bg.out | refine bs_ ?_ Bh.out) | exact HB.out)⟩⟩
  ·rw [if_neg c6] at H
   have De : ((B4.length : Int) == Bc) = false := beq_eq_false_iff_ne.mpr c6
   have Ed : ((B4.length : Int) != Bc) = true := bne_iff_ne.mpr c6
   (first | rw [De] | (simp only [i64_w, i32_w]; rw [De]) | skip)
   have H' := am_ H
   clear H
   have Gg := B7.out
   have Gh := B6.out
   have Di : w5.cell? ⟨B5, 0, none⟩ = some (.int .i64 Bi) := (blk_cell B0.out 0).trans rfl
   have Dj : w5.cell? ⟨B5, 1, none⟩ = some (.string Bj) := (blk_cell B0.out 1).trans rfl
   have Dk : w5.cell? ⟨B5, 2, none⟩ = some (.slice Bn B4.length Bo) := (blk_cell B0.out 2).trans rfl
   have Dl : w5.cell? ⟨B5, 3, none⟩ = some (.slice Bp B9.length Bq) := (blk_cell B0.out 3).trans rfl
   have Dm := blk_frozen B0.out 0
   have Dn := blk_frozen B0.out 1
   have Do := blk_frozen B0.out 2
   have Dp := blk_frozen B0.out 3
   have Eb := cells_12 B2.out
   have Ec := frozen_12 B2.out
   go_wp2
   go_meet
   case rel => exact ⟨_, (true), (by first | rfl | (simp; done) | (simp [*]; done)), H', ⟨by first | omega | exact Nat.le_refl _⟩, ⟨by (with_reducible repeat (first | apply kn_ | apply kd_ | apply ka_)); exact B2.out⟩, ⟨by (with_reducible repeat (first | apply kn_ | apply kd_ | apply ka_)); exact B0.out⟩, ⟨by repeat (first | (with_reducible first | exact HB.out | apply ba_ | apply bn_ | apply bd_ | refine bs_ ?_ Bg.out | refine bs_ ?_ Bh.out) | exact HB.out)⟩⟩
 case rest =>
  clear Gc
  try clear c1
  try clear p2
  try clear c3
  try clear c6
  try clear De
  try clear Ed
  try clear c7
  try clear c10
  try clear Di Dj Dk Dl
  try clear Eb
  try clear Du Dv Dw Dx
  try clear Em
  try clear Dm Dn Do Dp
  try clear Ec
  try clear Dy Dz E0 E1
  try clear En
  obtain ⟨kq, Dh, rfl, HA, F1, B2, B0, HB⟩ := hcut
  cases kq with
  | zero => exact absurd HA.out (by simp [round_machine_sizes.j0])
  | succ Gi =>
   have H := HA.out
   clear HA
   simp only [round_machine_sizes.j0] at H
   by_cases Eo : Dh = true
   ·subst Eo
    rw [if_pos rfl] at H
    obtain rfl := Option.some.inj H
    go_wp2
    go_ret
    exact ⟨by first | rfl | (simp [*] <;> rfl), by repeat (first | (with_reducible first | exact HB.out | apply ba_ | apply bn_ | apply bd_ | refine bs_ ?_ Bg.out | refine bs_ ?_ Bh.out) | exact HB.out)⟩
   ·replace Eo := Bool.eq_false_iff.mpr Eo
    subst Eo
    rw [if_neg (show ¬ (false = true) by decide)] at H
    have H' := am_ H
    clear H
    have Gj := B6.out
    have Gk := B7.out
    have Ep := cells_12 B2.out
    have Eq := frozen_12 B2.out
    go_wp2
    go_loopg [25] Gi (fun kq v25 w' => ∃ (B1 : Int), v25 = .int .i64 B1 ∧ Aside0 (round_machine_sizes.l0 kq Bc B1 Bc Br Bs Bt Bu Bv Bw Bx By Bz Ba Bb Bi Bj B4 B9 = some r) ∧ Aside0 (kq ≤ Gi) ∧ Aside0 (w'.heap[D0]? = some (.cells #[.int .i64 Bc, .int .i64 Br, .int .i64 Bs, .int .i64 Bt, .int .i64 Bu, .int .i64 Bv, .int .i64 Bw, .int .i64 Bx, .int .i64 By, .int .i64 Bz, (.slice D9 Ba.length Da), (.slice Db Bb.length Dc)] 47 (0, 0))) ∧ Aside0 (w'.heap[B5]? = some (.cells #[.int .i64 Bi, .string Bj, (.slice Bn B4.length Bo), (.slice Bp B9.length Bq)] 32 (0, 0))) ∧ Aside0 (Below w.heap.size w w'))
    case atStart => exact ⟨(0), (by first | rfl | (simp; done) | (simp [*]; done)), H', ⟨Nat.le_refl _⟩, ⟨by (with_reducible repeat (first | apply kn_ | apply kd_ | apply ka_)); exact B2.out⟩, ⟨by (with_reducible repeat (first | apply kn_ | apply kd_ | apply ka_)); exact B0.out⟩, ⟨by repeat (first | (with_reducible first | exact HB.out | apply ba_ | apply bn_ | apply bd_ | refine bs_ ?_ Bg.out | refine bs_ ?_ Bh.out) | exact HB.out)⟩⟩
    case round =>
     clear H'
     try clear c1
     try clear p2
     try clear c3
     try clear c6
     try clear De
     try clear Ed
     try clear c7
     try clear c10
     try clear Eo
     try clear c14
     try clear Di Dj Dk Dl
     try clear Eb
     try clear Ep
     try clear Du Dv Dw Dx
     try clear Em
     try clear Dm Dn Do Dp
     try clear Ec
     try clear Eq
     try clear Dy Dz E0 E1
     try clear En
     try clear p2
     obtain ⟨B1, rfl, HA, F2, B2, B0, HB⟩ := hrel
     cases gk with
     | zero => exact absurd HA.out (by simp [round_machine_sizes.l0])
     | succ k2 =>
      have H := HA.out
      clear HA
      simp only [round_machine_sizes.l0] at H
      by_cases Eh : B1 < Bc
      ·rw [if_pos Eh] at H
       have Er : decide (B1 < Bc) = true := decide_eq_true Eh
       clear Eh
       by_cases F3 : 0 ≤ B1
       ·rw [if_pos F3] at H
        have Gl : decide (0 ≤ B1) = true := decide_eq_true F3
        clear F3
        by_cases F4 : B1 < (B4.length : Int)
        ·rw [if_pos F4] at H
         have Gm : decide (B1 < (B4.length : Int)) = true := decide_eq_true F4
         clear F4
         by_cases Ei : ((rdOf ByteArray.empty B4 B1).size : Int) > 16
         ·rw [if_pos Ei] at H
          have Es : decide (16 < ((rdOf ByteArray.empty B4 B1).size : Int)) = true := decide_eq_true Ei
          have Et : decide (16 < (rdOf ByteArray.empty B4 B1).size) = true := decide_eq_true (by omega)
          clear Ei
          obtain rfl := Option.some.inj H
          have Gp := B7.out
          have Gq := B6.out
          have F5 : wr.cell? ⟨B5, 0, none⟩ = some (.int .i64 Bi) := (blk_cell B0.out 0).trans rfl
          have F6 : wr.cell? ⟨B5, 1, none⟩ = some (.string Bj) := (blk_cell B0.out 1).trans rfl
          have F7 : wr.cell? ⟨B5, 2, none⟩ = some (.slice Bn B4.length Bo) := (blk_cell B0.out 2).trans rfl
          have F8 : wr.cell? ⟨B5, 3, none⟩ = some (.slice Bp B9.length Bq) := (blk_cell B0.out 3).trans rfl
          have F9 := blk_frozen B0.out 0
          have Fa := blk_frozen B0.out 1
          have Fb := blk_frozen B0.out 2
          have Fc := blk_frozen B0.out 3
          have Bd : 0 ≤ (B1 : Int) := of_decide_eq_true (by first | (with_reducible assumption) | assumption)
          have Be : B1 < (B4.length : Int) := of_decide_eq_true (by first | (with_reducible assumption) | assumption)
          obtain ⟨D1, D8, B3⟩ := Kd.at_string Bm.out B1 Bd Be
          cases D8
          replace B3 := (HB.out.cell (World.block_lt_of_cell? w _ B3)).trans B3
          replace Bd := eq_true Bd
          replace Be := eq_true Be
          go_wp2
          go_ret
          exact ⟨by first | rfl | (simp [*] <;> rfl), by repeat (first | (with_reducible first | exact HB.out | apply ba_ | apply bn_ | apply bd_ | refine bs_ ?_ Bg.out | refine bs_ ?_ Bh.out) | exact HB.out)⟩
         ·rw [if_neg Ei] at H
          have Es : decide (16 < ((rdOf ByteArray.empty B4 B1).size : Int)) = false := decide_eq_false Ei
          have Et : decide (16 < (rdOf ByteArray.empty B4 B1).size) = false := decide_eq_false (by omega)
          clear Ei
          obtain ⟨Gd, Fd, H⟩ := bes_ H
          try dsimp only at H
          by_cases Fe : Gd = true
          ·subst Fe
           rw [if_pos rfl] at H
           by_cases E2 : (rdOf ByteArray.empty B4 B1).toList = ([] : List UInt8)
           ·rw [if_pos E2] at H
            have Eu : ((rdOf ByteArray.empty B4 B1).toList == ([] : List UInt8)) = true := beq_iff_eq.mpr E2
            have Ev : ((rdOf ByteArray.empty B4 B1).toList != ([] : List UInt8)) = false := bne_eq_false_iff_eq.mpr E2
            (try (have Ew : (rdOf ByteArray.empty B4 B1).toList.isEmpty = true := by simpa using E2))
            (try (have Ex : (!(rdOf ByteArray.empty B4 B1).toList.isEmpty) = false := by simpa using E2))
            clear E2
            by_cases Ff : B1 < (B9.length : Int)
            ·rw [if_pos Ff] at H
             have Gr : decide (B1 < (B9.length : Int)) = true := decide_eq_true Ff
             clear Ff
             by_cases Ej : ((rd_L3 B9 B1).length : Int) > 0
             ·rw [if_pos Ej] at H
              have Ey : decide (0 < ((rd_L3 B9 B1).length : Int)) = true := decide_eq_true Ej
              have Ez : decide (0 < (rd_L3 B9 B1).length) = true := decide_eq_true (by omega)
              clear Ej
              obtain rfl := Option.some.inj H
              have Gs := B7.out
              have Gt := B6.out
              have Fg : wr.cell? ⟨B5, 0, none⟩ = some (.int .i64 Bi) := (blk_cell B0.out 0).trans rfl
              have Fh : wr.cell? ⟨B5, 1, none⟩ = some (.string Bj) := (blk_cell B0.out 1).trans rfl
              have Fi : wr.cell? ⟨B5, 2, none⟩ = some (.slice Bn B4.length Bo) := (blk_cell B0.out 2).trans rfl
              have Fj : wr.cell? ⟨B5, 3, none⟩ = some (.slice Bp B9.length Bq) := (blk_cell B0.out 3).trans rfl
              have Fk := blk_frozen B0.out 0
              have Fl := blk_frozen B0.out 1
              have Fm := blk_frozen B0.out 2
              have Fn := blk_frozen B0.out 3
              have Bd : 0 ≤ (B1 : Int) := of_decide_eq_true (by first | (with_reducible assumption) | assumption)
              have Be : B1 < (B4.length : Int) := of_decide_eq_true (by first | (with_reducible assumption) | assumption)
              obtain ⟨D1, D8, B3⟩ := Kd.at_string Bm.out B1 Bd Be
              cases D8
              replace B3 := (HB.out.cell (World.block_lt_of_cell? w _ B3)).trans B3
              replace Bd := eq_true Bd
              replace Be := eq_true Be
              have Gu := cells_12 B2.out
              have Gv := frozen_12 B2.out
              go_wp2_with (first | ((with_reducible refine gate_load (t := 47) (x := .tmp 2) rfl ?_); refine lrg_ 47 (.tmp 2) D0 47 (by exact B2.out) Try.underlying47 ?_) | (go_at_call 25; (with_reducible refine (round_machine_lies.calls k2 Bc Br Bs Bt Bu Bv Bw Bx By Bz _ _ Ba _ _ Bb B1 _ _ (Kd.C_below D4.out HB.out) D5.out (Kd.C_below D6.out HB.out) D7.out Fd.out).mono ?_); rintro e w30 ⟨rfl, hb⟩; replace B2 := bkb_ B2 hb; replace B0 := bkb_ B0 hb; replace HB := bst_ HB hb; (try clear hb); have Gw := cells_4 B0.out; have Gx := frozen_4 B0.out; have D2 : 0 ≤ (B1 : Int) := of_decide_eq_true (by first | (with_reducible assumption) | assumption); have D3 : B1 < (B4.length : Int) := of_decide_eq_true (by first | (with_reducible assumption) | assumption); obtain ⟨Dd, E3, B8⟩ := Kd.at_string Bm.out B1 D2 D3; obtain rfl : D1 = Dd := (by injection E3); replace B8 := (HB.out.cell (World.block_lt_of_cell? w _ B8)).trans B8; replace D2 := eq_true D2; replace D3 := eq_true D3; have Df : 0 ≤ (B1 : Int) := of_decide_eq_true (by first | (with_reducible assumption) | assumption); have Dg : B1 < (B9.length : Int) := of_decide_eq_true (by first | (with_reducible assumption) | assumption); obtain ⟨F0, Ee, Ef, Eg, Bf, Bk, Bl⟩ := at_L3 Ea.out B1 Df Dg; cases Eg; replace Bf := (HB.out.cell (World.block_lt_of_cell? w _ Bf)).trans Bf; have E4 := am_ Bl; have E5 := am_ Bk; clear Bl Bk; replace Df := eq_true Df; replace Dg := eq_true Dg))
              go_ret
              exact ⟨by first | rfl | (simp [*] <;> rfl), by repeat (first | (with_reducible first | exact HB.out | apply ba_ | apply bn_ | apply bd_ | refine bs_ ?_ Bg.out | refine bs_ ?_ Bh.out) | exact HB.out)⟩
             ·rw [if_neg Ej] at H
              have Ey : decide (0 < ((rd_L3 B9 B1).length : Int)) = false := decide_eq_false Ej
              have Ez : decide (0 < (rd_L3 B9 B1).length) = false := decide_eq_false (by omega)
              clear Ej
              have H' := am_ H
              clear H
              have Gy := B7.out
              have Gz := B6.out
              have Fo : wr.cell? ⟨B5, 0, none⟩ = some (.int .i64 Bi) := (blk_cell B0.out 0).trans rfl
              have Fp : wr.cell? ⟨B5, 1, none⟩ = some (.string Bj) := (blk_cell B0.out 1).trans rfl
              have Fq : wr.cell? ⟨B5, 2, none⟩ = some (.slice Bn B4.length Bo) := (blk_cell B0.out 2).trans rfl
              have Fr : wr.cell? ⟨B5, 3, none⟩ = some (.slice Bp B9.length Bq) := (blk_cell B0.out 3).trans rfl
              have Fs := blk_frozen B0.out 0
              have Ft := blk_frozen B0.out 1
              have Fu := blk_frozen B0.out 2
              have Fv := blk_frozen B0.out 3
              have Bd : 0 ≤ (B1 : Int) := of_decide_eq_true (by first | (with_reducible assumption) | assumption)
              have Be : B1 < (B4.length : Int) := of_decide_eq_true (by first | (with_reducible assumption) | assumption)
              obtain ⟨D1, D8, B3⟩ := Kd.at_string Bm.out B1 Bd Be
              cases D8
              replace B3 := (HB.out.cell (World.block_lt_of_cell? w _ B3)).trans B3
              replace Bd := eq_true Bd
              replace Be := eq_true Be
              have J0 := cells_12 B2.out
              have J1 := frozen_12 B2.out
              go_wp2_with (first | ((with_reducible refine gate_load (t := 47) (x := .tmp 2) rfl ?_); refine lrg_ 47 (.tmp 2) D0 47 (by exact B2.out) Try.underlying47 ?_) | (go_at_call 25; (with_reducible refine (round_machine_lies.calls k2 Bc Br Bs Bt Bu Bv Bw Bx By Bz _ _ Ba _ _ Bb B1 _ _ (Kd.C_below D4.out HB.out) D5.out (Kd.C_below D6.out HB.out) D7.out Fd.out).mono ?_); rintro e w35 ⟨rfl, hb⟩; replace B2 := bkb_ B2 hb; replace B0 := bkb_ B0 hb; replace HB := bst_ HB hb; (try clear hb); have J2 := cells_4 B0.out; have J3 := frozen_4 B0.out; have D2 : 0 ≤ (B1 : Int) := of_decide_eq_true (by first | (with_reducible assumption) | assumption); have D3 : B1 < (B4.length : Int) := of_decide_eq_true (by first | (with_reducible assumption) | assumption); obtain ⟨Dd, E3, B8⟩ := Kd.at_string Bm.out B1 D2 D3; obtain rfl : D1 = Dd := (by injection E3); replace B8 := (HB.out.cell (World.block_lt_of_cell? w _ B8)).trans B8; replace D2 := eq_true D2; replace D3 := eq_true D3; have Df : 0 ≤ (B1 : Int) := of_decide_eq_true (by first | (with_reducible assumption) | assumption); have Dg : B1 < (B9.length : Int) := of_decide_eq_true (by first | (with_reducible assumption) | assumption); obtain ⟨F0, Ee, Ef, Eg, Bf, Bk, Bl⟩ := at_L3 Ea.out B1 Df Dg; cases Eg; replace Bf := (HB.out.cell (World.block_lt_of_cell? w _ Bf)).trans Bf; have E4 := am_ Bl; have E5 := am_ Bk; clear Bl Bk; replace Df := eq_true Df; replace Dg := eq_true Dg))
              go_roundg k2
              case measure => have := F1.out; have := F2.out; omega
              case rel => exact ⟨(wrap64 (B1 + 1)), (by first | rfl | (simp; done) | (simp [*]; done)), H', ⟨by have := F1.out; have := F2.out; omega⟩, ⟨by (with_reducible repeat (first | apply kn_ | apply kd_ | apply ka_)); exact B2.out⟩, ⟨by (with_reducible repeat (first | apply kn_ | apply kd_ | apply ka_)); exact B0.out⟩, ⟨by repeat (first | (with_reducible first | exact HB.out | apply ba_ | apply bn_ | apply bd_ | refine bs_ ?_ Bg.out | refine bs_ ?_ Bh.out) | exact HB.out)⟩⟩
            ·rw [if_neg Ff] at H
             exact absurd H (by simp)
           ·rw [if_neg E2] at H
            have Eu : ((rdOf ByteArray.empty B4 B1).toList == ([] : List UInt8)) = false := beq_eq_false_iff_ne.mpr E2
            have Ev : ((rdOf ByteArray.empty B4 B1).toList != ([] : List UInt8)) = true := bne_iff_ne.mpr E2
            (try (have Ew : (rdOf ByteArray.empty B4 B1).toList.isEmpty = false := by simpa using E2))
            (try (have Ex : (!(rdOf ByteArray.empty B4 B1).toList.isEmpty) = true := by simpa using E2))
            obtain rfl := Option.some.inj H
            have J4 := B7.out
            have J5 := B6.out
            have Fw : wr.cell? ⟨B5, 0, none⟩ = some (.int .i64 Bi) := (blk_cell B0.out 0).trans rfl
            have Fx : wr.cell? ⟨B5, 1, none⟩ = some (.string Bj) := (blk_cell B0.out 1).trans rfl
            have Fy : wr.cell? ⟨B5, 2, none⟩ = some (.slice Bn B4.length Bo) := (blk_cell B0.out 2).trans rfl
            have Fz : wr.cell? ⟨B5, 3, none⟩ = some (.slice Bp B9.length Bq) := (blk_cell B0.out 3).trans rfl
            have G0 := blk_frozen B0.out 0
            have G1 := blk_frozen B0.out 1
            have G2 := blk_frozen B0.out 2
            have G3 := blk_frozen B0.out 3
            have Bd : 0 ≤ (B1 : Int) := of_decide_eq_true (by first | (with_reducible assumption) | assumption)
            have Be : B1 < (B4.length : Int) := of_decide_eq_true (by first | (with_reducible assumption) | assumption)
            obtain ⟨D1, D8, B3⟩ := Kd.at_string Bm.out B1 Bd Be
            cases D8
            replace B3 := (HB.out.cell (World.block_lt_of_cell? w _ B3)).trans B3
            replace Bd := eq_true Bd
            replace Be := eq_true Be
            have J6 := cells_12 B2.out
            have J7 := frozen_12 B2.out
            go_wp2_with (first | ((with_reducible refine gate_load (t := 47) (x := .tmp 2) rfl ?_); refine lrg_ 47 (.tmp 2) D0 47 (by exact B2.out) Try.underlying47 ?_) | (go_at_call 25; (with_reducible refine (round_machine_lies.calls k2 Bc Br Bs Bt Bu Bv Bw Bx By Bz _ _ Ba _ _ Bb B1 _ _ (Kd.C_below D4.out HB.out) D5.out (Kd.C_below D6.out HB.out) D7.out Fd.out).mono ?_); rintro e w40 ⟨rfl, hb⟩; replace B2 := bkb_ B2 hb; replace B0 := bkb_ B0 hb; replace HB := bst_ HB hb; (try clear hb); have J8 := cells_4 B0.out; have J9 := frozen_4 B0.out; have D2 : 0 ≤ (B1 : Int) := of_decide_eq_true (by first | (with_reducible assumption) | assumption); have D3 : B1 < (B4.length : Int) := of_decide_eq_true (by first | (with_reducible assumption) | assumption); obtain ⟨Dd, E3, B8⟩ := Kd.at_string Bm.out B1 D2 D3; obtain rfl : D1 = Dd := (by injection E3); replace B8 := (HB.out.cell (World.block_lt_of_cell? w _ B8)).trans B8; replace D2 := eq_true D2; replace D3 := eq_true D3))
            go_ret
            exact ⟨by first | rfl | (simp [*] <;> rfl), by repeat (first | (with_reducible first | exact HB.out | apply ba_ | apply bn_ | apply bd_ | refine bs_ ?_ Bg.out | refine bs_ ?_ Bh.out) | exact HB.out)⟩
          ·replace Fe := Bool.eq_false_iff.mpr Fe
           subst Fe
           rw [if_neg (show ¬ (false = true) by decide)] at H
           have H' := am_ H
           clear H
           have Ja := B7.out
           have Jb := B6.out
           have G4 : wr.cell? ⟨B5, 0, none⟩ = some (.int .i64 Bi) := (blk_cell B0.out 0).trans rfl
           have G5 : wr.cell? ⟨B5, 1, none⟩ = some (.string Bj) := (blk_cell B0.out 1).trans rfl
           have G6 : wr.cell? ⟨B5, 2, none⟩ = some (.slice Bn B4.length Bo) := (blk_cell B0.out 2).trans rfl
           have G7 : wr.cell? ⟨B5, 3, none⟩ = some (.slice Bp B9.length Bq) := (blk_cell B0.out 3).trans rfl
           have G8 := blk_frozen B0.out 0
           have G9 := blk_frozen B0.out 1
           have Ga := blk_frozen B0.out 2
           have Gb := blk_frozen B0.out 3
           have Bd : 0 ≤ (B1 : Int) := of_decide_eq_true (by first | (with_reducible assumption) | assumption)
           have Be : B1 < (B4.length : Int) := of_decide_eq_true (by first | (with_reducible assumption) | assumption)
           obtain ⟨D1, D8, B3⟩ := Kd.at_string Bm.out B1 Bd Be
           cases D8
           replace B3 := (HB.out.cell (World.block_lt_of_cell? w _ B3)).trans B3
           replace Bd := eq_true Bd
           replace Be := eq_true Be
           have Jc := cells_12 B2.out
           have Jd := frozen_12 B2.out
           go_wp2_with (first | ((with_reducible refine gate_load (t := 47) (x := .tmp 2) rfl ?_); refine lrg_ 47 (.tmp 2) D0 47 (by exact B2.out) Try.underlying47 ?_) | (go_at_call 25; (with_reducible refine (round_machine_lies.calls k2 Bc Br Bs Bt Bu Bv Bw Bx By Bz _ _ Ba _ _ Bb B1 _ _ (Kd.C_below D4.out HB.out) D5.out (Kd.C_below D6.out HB.out) D7.out Fd.out).mono ?_); rintro e w45 ⟨rfl, hb⟩; replace B2 := bkb_ B2 hb; replace B0 := bkb_ B0 hb; replace HB := bst_ HB hb; (try clear hb)))
           go_roundg k2
           case measure => have := F1.out; have := F2.out; omega
           case rel => exact ⟨(wrap64 (B1 + 1)), (by first | rfl | (simp; done) | (simp [*]; done)), H', ⟨by have := F1.out; have := F2.out; omega⟩, ⟨by (with_reducible repeat (first | apply kn_ | apply kd_ | apply ka_)); exact B2.out⟩, ⟨by (with_reducible repeat (first | apply kn_ | apply kd_ | apply ka_)); exact B0.out⟩, ⟨by repeat (first | (with_reducible first | exact HB.out | apply ba_ | apply bn_ | apply bd_ | refine bs_ ?_ Bg.out | refine bs_ ?_ Bh.out) | exact HB.out)⟩⟩
        ·rw [if_neg F4] at H
         exact absurd H (by simp)
       ·rw [if_neg F3] at H
        exact absurd H (by simp)
      ·rw [if_neg Eh] at H
       have Er : decide (B1 < Bc) = false := decide_eq_false Eh
       clear Eh
       obtain rfl := Option.some.inj H
       go_wp2
       go_ret
       exact ⟨by first | rfl | (simp [*] <;> rfl), by repeat (first | (with_reducible first | exact HB.out | apply ba_ | apply bn_ | apply bd_ | refine bs_ ?_ Bg.out | refine bs_ ?_ Bh.out) | exact HB.out)⟩
end Go.Proofs.Ytdnccjlfongdeaa.Gn
