import Derived.Test.YtdnccjlfongdeaaZRoundOnlyGn0
import Derived.Test.YtdnccjlfongdeaaZRoundOnlyGn2
import Derived.Test.YtdnccjlfongdeaaZRoundOnlyGn10
import Derived.Shelf.Abstract
namespace Go.Proofs.Ytdnccjlfongdeaa.Gn
open Go.RowKit Go.Proofs.YtdnccjlfongdeaaW.PrintWords Go.Proofs.YtdnccjlfongdeaaW.PrintLast Go.Proofs.YtdnccjlfongdeaaW.PrintMore
attribute [local go_sem] max2_int min2_int max_two min_two max_three min_three max_four min_four   -- for this text's walks alone
set_option linter.unusedVariables false
set_option linter.unusedSimpArgs false
def round_told.l0 : Nat → Int → Int → List (S45) → Int → Int → Option (ByteArray × Bool)
 | 0, _, _, _, _, _ => none
 | k + 1, x1, x2, B1, B2, B0 => if B0 < B2 then (if 0 ≤ B0 then (if B0 < (B1.length : Int) then (if ((rd_T45 B1 B0).f1) = x1 then (if ((rd_T45 B1 B0).f0) = x2 then (some ((rd_T45 B1 B0).f3, true)) else (round_told.l0 k x1 x2 B1 B2 (wrap64 (B0 + 1)))) else (round_told.l0 k x1 x2 B1 B2 (wrap64 (B0 + 1)))) else (none)) else (none)) else (some ((⟨#[]⟩ : ByteArray), false))
def round_told.f (k : Nat) (l0 : List (S45)) (a1 a2 : Int) : Option (ByteArray × Bool) := round_told.l0 k a1 a2 l0 (l0.length : Int) 0
theorem round_told.mono_l : ∀ k, (∀ y0 y1 y2 y3 y4, LeO (round_told.l0 k y0 y1 y2 y3 y4) (round_told.l0 (k + 1) y0 y1 y2 y3 y4))
 | 0 => fun _ _ _ _ _ r h => by simp [round_told.l0] at h
 | k + 1 => by
  have B0 := round_told.mono_l k
  ·intro y0 y1 y2 y3 y4
   unfold round_told.l0
   repeat' first
   | (with_reducible exact B0 _ _ _ _ _)
   | (with_reducible exact LeO.refl _)
   | (with_reducible exact LeO.none _)
   | (with_reducible refine LeO.ite ?_ ?_)
   | (with_reducible refine LeO.bind ?_ (fun _ => ?_))
   | exact B0 _ _ _ _ _
   | exact LeO.none _
   | refine LeO.ite ?_ ?_
   | refine LeO.bind ?_ (fun _ => ?_)
theorem round_told.mono : ∀ a0 a1 a2 k, LeO (round_told.f k a0 a1 a2) (round_told.f (k + 1) a0 a1 a2) := by
 intro a0 a1 a2 k
 have B0 := round_told.mono_l k
 unfold round_told.f
 repeat' first
   | (with_reducible exact B0 _ _ _ _ _)
   | (with_reducible exact LeO.refl _)
   | (with_reducible exact LeO.none _)
   | (with_reducible refine LeO.ite ?_ ?_)
   | (with_reducible refine LeO.bind ?_ (fun _ => ?_))
   | exact B0 _ _ _ _ _
   | exact LeO.none _
   | refine LeO.ite ?_ ?_
   | refine LeO.bind ?_ (fun _ => ?_)
set_option maxHeartbeats 8000000 in
set_option maxRecDepth 100000 in
theorem round_told.calls (k : Nat) (A0 : Option Addr) (c0 : Nat) (l0 : List (S45)) (a1 a2 : Int) (r1 : ByteArray) (r2 : Bool) (w : World) (Bi : Kd.C k45 w A0 l0.length l0) (Bj : l0.length ≤ c0) (h : round_told.f k l0 a1 a2 = some (r1, r2)) :
  Calls Try.prog 26 #[.slice A0 l0.length c0, .int .i64 a1, .int .i64 a2] w fun e w' => e = .returned (.tuple #[.string r1, .bool r2]) ∧ Below w.heap.size w w' := by
 have Bq := Try.underlying45
 have Bk := am_ Bi
 have Bt := am_ Bj
 clear Bi Bj
 have HB := am_ (Below.refl w.heap.size w)
 have H := h
 unfold round_told.f at H
 clear h
 have H' := am_ H
 clear H
 go_enter Try.func26, Try.ntmps26
 go_wp2
 go_loopg [12] k (fun kq v12 w' => ∃ (B0 : Int), v12 = .int .i64 B0 ∧ Aside0 (round_told.l0 kq a1 a2 l0 (l0.length : Int) B0 = some (r1, r2)) ∧ Aside0 (kq ≤ k) ∧ Aside0 (Below w.heap.size w w'))
 case atStart => exact ⟨(0), (by first | rfl | (simp; done) | (simp [*]; done)), H', ⟨Nat.le_refl _⟩, ⟨by repeat (first | (with_reducible first | exact HB.out | apply ba_ | apply bn_ | apply bd_) | exact HB.out)⟩⟩
 case round =>
  clear H'
  try clear c2
  try clear p2
  obtain ⟨B0, rfl, HA, Bl, HB⟩ := hrel
  cases gk with
  | zero => exact absurd HA.out (by simp [round_told.l0])
  | succ k1 =>
   have H := HA.out
   clear HA
   simp only [round_told.l0] at H
   by_cases c4 : B0 < (l0.length : Int)
   ·rw [if_pos c4] at H
    have Bd : decide (B0 < (l0.length : Int)) = true := decide_eq_true c4
    clear c4
    by_cases c5 : 0 ≤ B0
    ·rw [if_pos c5] at H
     have Br : decide (0 ≤ B0) = true := decide_eq_true c5
     clear c5
     by_cases c6 : B0 < (l0.length : Int)
     ·rw [if_pos c6] at H
      have Bs : decide (B0 < (l0.length : Int)) = true := decide_eq_true c6
      clear c6
      by_cases c7 : ((rd_T45 l0 B0).f1) = a1
      rw [if_pos c7] at H
      have Be : (((rd_T45 l0 B0).f1) == a1) = true := beq_iff_eq.mpr c7
      have Bf : (((rd_T45 l0 B0).f1) != a1) = false := bne_eq_false_iff_eq.mpr c7
      clear c7
      by_cases c8 : ((rd_T45 l0 B0).f0) = a2
      ·rw [if_pos c8] at H
       have Bg : (((rd_T45 l0 B0).f0) == a2) = true := beq_iff_eq.mpr c8
       have Bh : (((rd_T45 l0 B0).f0) != a2) = false := bne_eq_false_iff_eq.mpr c8
       clear c8
       simp only [Option.some.injEq, Prod.mk.injEq] at H
       obtain ⟨rfl, rfl⟩ := H
       have B6 : 0 ≤ (B0 : Int) := of_decide_eq_true (by first | (with_reducible assumption) | assumption)
       have B7 : B0 < (l0.length : Int) := of_decide_eq_true (by first | (with_reducible assumption) | assumption)
       obtain ⟨Bb, Ba, B1, B2, B3, B4⟩ := at_T45 Bk.out B0 B6 B7
       cases Ba
       replace B1 := (HB.out.cell (World.block_lt_of_cell? w _ B1)).trans B1
       replace B2 := (HB.out.cell (World.block_lt_of_cell? w _ B2)).trans B2
       replace B3 := (HB.out.cell (World.block_lt_of_cell? w _ B3)).trans B3
       replace B4 := (HB.out.cell (World.block_lt_of_cell? w _ B4)).trans B4
       replace B6 := eq_true B6
       replace B7 := eq_true B7
       go_wp2_with (first | ((with_reducible refine gate_dst (N := 9) rfl ?_); refine bxe_ 9 45 #[.int .i64 0, .int .i64 0, .int .i64 0, .string (⟨#[]⟩ : ByteArray)] ?_; intro Bc hg w9 hbox hb; have B5 := am_ (hbox); have B8 := gwk_ HB hg; have B9 := B8; replace HB := bst_ HB hb; clear hb hbox hg; have Bm := cells_4 B5.out; have Bn := frozen_4 B5.out))
       go_ret2
       exact ⟨by first | rfl | (simp [*] <;> rfl), by repeat (first | (with_reducible first | exact HB.out | apply ba_ | apply bn_ | apply bd_ | refine bs_ ?_ B9.out) | exact HB.out)⟩
      rw [if_neg c8] at H
      have Bg : (((rd_T45 l0 B0).f0) == a2) = false := beq_eq_false_iff_ne.mpr c8
      have Bh : (((rd_T45 l0 B0).f0) != a2) = true := bne_iff_ne.mpr c8
      rotate_left
      rw [if_neg c7] at H
      have Be : (((rd_T45 l0 B0).f1) == a1) = false := beq_eq_false_iff_ne.mpr c7
      have Bf : (((rd_T45 l0 B0).f1) != a1) = true := bne_iff_ne.mpr c7
      rotate_left
      all_goals
       have H' := am_ H
       clear H
       have B6 : 0 ≤ (B0 : Int) := of_decide_eq_true (by first | (with_reducible assumption) | assumption)
       have B7 : B0 < (l0.length : Int) := of_decide_eq_true (by first | (with_reducible assumption) | assumption)
       obtain ⟨Bb, Ba, B1, B2, B3, B4⟩ := at_T45 Bk.out B0 B6 B7
       cases Ba
       replace B1 := (HB.out.cell (World.block_lt_of_cell? w _ B1)).trans B1
       replace B2 := (HB.out.cell (World.block_lt_of_cell? w _ B2)).trans B2
       replace B3 := (HB.out.cell (World.block_lt_of_cell? w _ B3)).trans B3
       replace B4 := (HB.out.cell (World.block_lt_of_cell? w _ B4)).trans B4
       replace B6 := eq_true B6
       replace B7 := eq_true B7
       go_wp2_with (first | ((with_reducible refine gate_dst (N := 9) rfl ?_); refine bxe_ 9 45 #[.int .i64 0, .int .i64 0, .int .i64 0, .string (⟨#[]⟩ : ByteArray)] ?_; intro Bc hg w11 hbox hb; have B5 := am_ (hbox); have B8 := gwk_ HB hg; have B9 := B8; replace HB := bst_ HB hb; clear hb hbox hg; have Bo := cells_4 B5.out; have Bp := frozen_4 B5.out))
       go_roundg k1
       case measure => have := Bl.out; omega
       case rel => exact ⟨(wrap64 (B0 + 1)), (by first | rfl | (simp; done) | (simp [*]; done)), H', ⟨by have := Bl.out; omega⟩, ⟨by repeat (first | (with_reducible first | exact HB.out | apply ba_ | apply bn_ | apply bd_ | refine bs_ ?_ B9.out) | exact HB.out)⟩⟩
     ·rw [if_neg c6] at H
      exact absurd H (by simp)
    ·rw [if_neg c5] at H
     exact absurd H (by simp)
   ·rw [if_neg c4] at H
    have Bd : decide (B0 < (l0.length : Int)) = false := decide_eq_false c4
    clear c4
    simp only [Option.some.injEq, Prod.mk.injEq] at H
    obtain ⟨rfl, rfl⟩ := H
    go_wp2
    go_ret2
    exact ⟨by first | rfl | (simp [*] <;> rfl), by repeat (first | (with_reducible first | exact HB.out | apply ba_ | apply bn_ | apply bd_) | exact HB.out)⟩
/-- What a slot brings: what a faulty owner's lies say, or an honest owner's line. -/
def round_bringsV (k : Nat) (a0 a1 a2 a3 a4 a5 a6 a7 a8 a9 : Int) (B0 B1 : List Int) (mine : List S45) (lines : List ByteArray) (s w : Int) : Option (ByteArray × Bool) :=
 (round_machine_lies.f k a0 a1 a2 a3 a4 a5 a6 a7 a8 a9 B0 B1 w).bind fun t => if t = true then round_told.f k mine s w else if 0 ≤ w then (if w < (lines.length : Int) then some (rdOf ByteArray.empty lines w, true) else none) else none
theorem round_brings_cut {k : Nat} {a0 a1 a2 a3 a4 a5 a6 a7 a8 a9 : Int} {B0 B1 : List Int} {mine : List S45} {lines : List ByteArray} {s w : Int} {x : ByteArray × Bool} (h : round_bringsV k a0 a1 a2 a3 a4 a5 a6 a7 a8 a9 B0 B1 mine lines s w = some x) :
  ∃ b, round_machine_lies.f k a0 a1 a2 a3 a4 a5 a6 a7 a8 a9 B0 B1 w = some b ∧ ((b = true ∧ round_told.f k mine s w = some x) ∨ (b = false ∧ 0 ≤ w ∧ w < (lines.length : Int) ∧ x = (rdOf ByteArray.empty lines w, true))) := by
 obtain ⟨b, h1, h2⟩ := Option.bind_eq_some_iff.mp h
 refine ⟨b, h1, ?_⟩
 cases b with
 | true => exact .inl ⟨rfl, by rw [if_pos rfl] at h2; exact h2⟩
 | false =>
  rw [if_neg (by decide)] at h2
  by_cases h3 : 0 ≤ w
  ·rw [if_pos h3] at h2
   by_cases h4 : w < (lines.length : Int)
   ·rw [if_pos h4] at h2
    exact .inr ⟨rfl, h3, h4, (Option.some.inj h2).symm⟩
   ·rw [if_neg h4] at h2
    cases h2
  ·rw [if_neg h3] at h2
   cases h2
set_option maxHeartbeats 8000000 in
set_option maxRecDepth 100000 in
theorem round_Play1.calls (k : Nat) (a0 a1 a2 a3 a4 a5 a6 a7 a8 a9 : Int) (B7 : Option Addr) (B8 : Nat) (B0 : List Int) (B9 : Option Addr) (Ba : Nat) (B1 : List Int) (A1 : Option Addr) (c1 : Nat) (mine : List S45) (A2 : Option Addr) (c2 : Nat) (lines : List ByteArray) (s o : Int) (t : ByteArray) (b : Bool) (gm gn gr : Nat) (w : World)
  (B2 : Kd.C (Kd.int .i64) w B7 B0.length B0) (B3 : B0.length ≤ B8) (B4 : Kd.C (Kd.int .i64) w B9 B1.length B1) (B5 : B1.length ≤ Ba) (Bb : Kd.C k45 w A1 mine.length mine) (Bc : mine.length ≤ c1) (Bd : Kd.C Kd.string w A2 lines.length lines)
  (hm : w.heap[gm]? = some (.cells #[.int .i64 a0, .int .i64 a1, .int .i64 a2, .int .i64 a3, .int .i64 a4, .int .i64 a5, .int .i64 a6, .int .i64 a7, .int .i64 a8, .int .i64 a9, .slice B7 B0.length B8, .slice B9 B1.length Ba] 47 (0, 0))) (hn : w.cell? ⟨gn, 0, none⟩ = some (.slice A1 mine.length c1)) (hr : w.cell? ⟨gr, 2, none⟩ = some (.slice A2 lines.length c2))
  (h : round_bringsV k a0 a1 a2 a3 a4 a5 a6 a7 a8 a9 B0 B1 mine lines s o = some (t, b)) :
  Calls Try.prog 24 (#[.int .i64 s, .int .i64 o] ++ #[.pointer (some ⟨gm, 0, none⟩), .pointer (some ⟨gn, 0, none⟩), .pointer (some ⟨gr, 0, none⟩)]) w fun e w' => e = .returned (.tuple #[.string t, .bool b]) ∧ Below w.heap.size w w' := by
 have hum := Try.underlying47
 obtain ⟨q, hq, hcase⟩ := round_brings_cut h
 have HM := am_ hm
 rcases hcase with ⟨rfl, ht⟩ | ⟨rfl, h0, h1, hx⟩
 ·go_enter Try.func24, Try.ntmps24
  go_wp2_with (first | ((with_reducible refine gate_load (t := 47) (x := .tmp 2) rfl ?_); refine lrg_ 47 (.tmp 2) gm 47 (by exact HM.out) Try.underlying47 ?_) | (go_at_call 25; (with_reducible refine (round_machine_lies.calls k a0 a1 a2 a3 a4 a5 a6 a7 a8 a9 _ _ B0 _ _ B1 o true _ ?side1 ?side2 ?side3 ?side4 hq).mono ?_); (case side1 => exact B2); (case side2 => exact B3); (case side3 => exact B4); (case side4 => exact B5); rintro e w1 ⟨rfl, hb⟩; replace hn := (hb.cell (World.block_lt_of_cell? _ _ hn)).trans hn) | (go_at_call 26; (with_reducible refine (round_told.calls k _ _ mine s o _ _ _ ?side5 ?side6 ht).mono ?_); (case side5 => exact Kd.C_below Bb hb); (case side6 => exact Bc); rintro e w2 ⟨rfl, Be⟩))
  go_ret2
  exact ⟨rfl, below_step hb Be⟩
 ·cases hx
  obtain ⟨ad, e0, B6⟩ := Kd.at_string Bd o h0 h1
  cases e0
  have p1 : (0 ≤ o) = True := eq_true h0
  have p2 : (o < (lines.length : Int)) = True := eq_true h1
  go_enter Try.func24, Try.ntmps24
  go_wp2_with (first | ((with_reducible refine gate_load (t := 47) (x := .tmp 2) rfl ?_); refine lrg_ 47 (.tmp 2) gm 47 (by exact HM.out) Try.underlying47 ?_) | (go_at_call 25; (with_reducible refine (round_machine_lies.calls k a0 a1 a2 a3 a4 a5 a6 a7 a8 a9 _ _ B0 _ _ B1 o false _ ?side1 ?side2 ?side3 ?side4 hq).mono ?_); (case side1 => exact B2); (case side2 => exact B3); (case side3 => exact B4); (case side4 => exact B5); rintro e w1 ⟨rfl, hb⟩; replace hr := (hb.cell (World.block_lt_of_cell? _ _ hr)).trans hr; replace B6 := (hb.cell (World.block_lt_of_cell? _ _ B6)).trans B6))
  go_ret2
  exact ⟨rfl, hb⟩
/-- What a node delivers of so many slots, from one on. -/
def round_dgo (p : Int → Int → Option (ByteArray × Bool)) (tb : List Int) (n : Int) : Nat → Nat → List S45 → Option (List S45)
 | 0, _, acc => some acc
 | d + 1, i, acc => (p (i : Int) (rd tb (i : Int))).bind fun x => if x.2 = true then (round_cut.f x.1).bind fun t => (if acc.length < 3518437208883 then round_dgo p tb n d (i + 1) (acc ++ [(⟨rd tb (i : Int), (i : Int), n, t⟩ : S45)]) else none) else round_dgo p tb n d (i + 1) acc
set_option maxHeartbeats 8000000 in
set_option maxRecDepth 100000 in
theorem round_deliver.calls (p : Int → Int → Option (ByteArray × Bool)) (a0 a1 a2 a3 a4 a5 a6 a7 a8 a9 : Int) (B3 : Option Addr) (B5 : Nat) (B0 : List Int) (B6 : Option Addr) (B7 : Nat) (B8 : List Int) (n : Int) (g : Nat) (lb : Array Value) (eg : ∀ args w, (callFunc g args).run Try.prog w = .ok (.enter g args) w) (r : List S45) (w : World)
  (B2 : Kd.C (Kd.int .i64) w B3 B0.length B0)
  (hp : ∀ W, Below w.heap.size w W → ∀ (s o : Int) (t : ByteArray) (b : Bool), p s o = some (t, b) → Calls Try.prog g (#[.int .i64 s, .int .i64 o] ++ lb) W fun e W' => e = .returned (.tuple #[.string t, .bool b]) ∧ Below W.heap.size W W')
  (h : round_dgo p B0 n B0.length 0 [] = some r) :
  Calls Try.prog 23 #[.agg #[.int .i64 a0, .int .i64 a1, .int .i64 a2, .int .i64 a3, .int .i64 a4, .int .i64 a5, .int .i64 a6, .int .i64 a7, .int .i64 a8, .int .i64 a9, .slice B3 B0.length B5, .slice B6 B8.length B7], .func (.func g) #[] lb, .int .i64 n] w fun e w' => ∃ B9 : Value, e = .returned B9 ∧ Kd.R k45 45 w' w.heap.size (fun _ => True) B9 r ∧ Below w.heap.size w w' := by
 have hud := Try.underlying45
 have HR := am_ B2
 have HH := am_ h
 clear B2 h
 have HB := am_ (Below.refl w.heap.size w)
 go_enter Try.func23, Try.ntmps23
 go_wp2_with (first | ((with_reducible refine gate_dst (N := 3) rfl ?_); refine bxe_ 3 47 #[.int .i64 a0, .int .i64 a1, .int .i64 a2, .int .i64 a3, .int .i64 a4, .int .i64 a5, .int .i64 a6, .int .i64 a7, .int .i64 a8, .int .i64 a9, .slice B3 B0.length B5, .slice B6 B8.length B7] ?_; intro gb hg w2 hbox hb; have BK := am_ hbox; replace HB := bst_ HB hb; clear hb hbox hg; have hcz := (blk_cell BK.out 10).trans rfl))
 go_loopg [7, 16] B0.length (fun kq v7 v16 w' => ∃ (j : Nat) (acc : List S45), v16 = .int .i64 (j : Int) ∧ j + kq = B0.length ∧ Aside0 (round_dgo p B0 n kq j acc = some r) ∧ Aside0 (Kd.R k45 45 w' w.heap.size (fun _ => True) v7 acc) ∧ Aside0 (Below w.heap.size w w'))
 case atStart => exact ⟨0, [], rfl, by omega, HH, ⟨Kd.R_nil _ _ _ _ _⟩, HB⟩
 case round =>
  clear HB HH
  obtain ⟨j, acc, rfl, hj, HH, HO, HB⟩ := hrel
  cases gk with
  | zero =>
   have c : decide ((j : Int) < (B0.length : Int)) = false := decide_eq_false (by omega)
   obtain rfl := Option.some.inj HH.out
   go_wp2
   go_ret
   exact ⟨_, rfl, HO.out, HB.out⟩
  | succ k1 =>
   have hlt : j < B0.length := by omega
   have c : decide ((j : Int) < (B0.length : Int)) = true := decide_eq_true (by omega)
   have ew : wrap64 ((j : Int) + 1) = ((j + 1 : Nat) : Int) := by have := Kd.C_max HR.out; unfold wrap64; omega
   obtain ⟨⟨t, b⟩, h1, h2⟩ := Option.bind_eq_some_iff.mp (show (p (j : Int) (rd B0 (j : Int))).bind (fun x => if x.2 = true then (round_cut.f x.1).bind fun t => (if acc.length < 3518437208883 then round_dgo p B0 n k1 (j + 1) (acc ++ [(⟨rd B0 (j : Int), (j : Int), n, t⟩ : S45)]) else none) else round_dgo p B0 n k1 (j + 1) acc) = some r from HH.out)
   clear HH
   obtain ⟨Ba, B4, B1⟩ := Kd.at_int HR.out (j : Int) (by omega) (by omega)
   cases B4
   rw [Int.toNat_natCast] at B1
   replace B1 := (HB.out.cell (World.block_lt_of_cell? w _ B1)).trans B1
   have Bd : (0 ≤ (j : Int)) = True := eq_true (by omega)
   have Be : ((j : Int) < (B0.length : Int)) = True := eq_true (by omega)
   have H1 := am_ h1
   clear h1
   cases b with
   | false =>
    have H2 := am_ (show round_dgo p B0 n k1 (j + 1) acc = some r from h2)
    clear h2
    go_wp2_with (go_at_fn g; refine (hp _ (HB.out) (j : Int) (rd B0 (j : Int)) t false H1.out).mono ?_; rintro e W' ⟨rfl, hb⟩; replace HO := am_ (Kd.R_below HO.out hb); replace HB := am_ (below_step (HB.out) hb); clear hb)
    go_roundg k1
    case measure => omega
    case rel => exact ⟨j + 1, acc, by first | rfl | rw [ew], by omega, H2, HO, HB⟩
   | true =>
    obtain ⟨u, h3, h4⟩ := Option.bind_eq_some_iff.mp (show (round_cut.f t).bind (fun t => (if acc.length < 3518437208883 then round_dgo p B0 n k1 (j + 1) (acc ++ [(⟨rd B0 (j : Int), (j : Int), n, t⟩ : S45)]) else none)) = some r from h2)
    clear h2
    by_cases hl : acc.length < 3518437208883
    ·rw [if_pos hl] at h4
     have H3 := am_ h3
     have H4 := am_ h4
     have LM := am_ hl
     clear h3 h4 hl
     go_wp2_with (first | (go_at_fn g; refine (hp _ (HB.out) (j : Int) (rd B0 (j : Int)) t true H1.out).mono ?_; rintro e W' ⟨rfl, hb⟩; replace HO := am_ (Kd.R_below HO.out hb); replace HB := am_ (below_step (HB.out) hb); clear hb) | (go_at_call 48; refine (round_cut.calls t u _ H3.out).mono ?_; rintro e W2 ⟨rfl, hb⟩; replace HO := am_ (Kd.R_below HO.out hb); replace HB := am_ (below_step (HB.out) hb); clear hb) | ((with_reducible refine gate_builtin (b := .append) (xs := #[.tmp 29, .tmp 36]) rfl ?_); at_builtin; refine Kd.R_append k45 (w0 := w) w.heap.size rfl (.tmp 29) (.tmp 36) 42 45 (.agg #[(.int .i64 0), (.int .i64 0), (.int .i64 0), (.string ⟨#[]⟩)]) 40 rfl Try.underlying42 info45 rfl (by decide) (by omega) _ acc (⟨rd B0 (j : Int), (j : Int), n, u⟩ : S45) [.int .i64 (rd B0 (j : Int)), .int .i64 (j : Int), .int .i64 n, .string u] (fun _ => True) (fun _ => False) rfl rfl ?aP (fun _ hk => hk.elim) ?aF ?aO ?aB ?aS ?aL ?_; (case aP => exact k45_mkM _ _ _ (⟨rd B0 (j : Int), (j : Int), n, u⟩ : S45)); (case aB => exact (by repeat (first | (with_reducible first | exact HB.out | apply ba_ | apply bn_ | apply bd_) | exact HB.out))); (case aF => exact (fun _ _ => trivial)); (case aO => exact (by (with_reducible repeat (first | apply Kd.R_alloc | apply Kd.R_drewN | apply Kd.R_drew)); exact HO.out)); (case aS => exact (below_size (by repeat (first | (with_reducible first | exact HB.out | apply ba_ | apply bn_ | apply bd_) | exact HB.out)))); (case aL => have := LM.out; omega); intro v148 w7 ho hb hg hat; have Bb := am_ (hb); have Bc := am_ (ho); clear HB HO; have HB := Bb; have HO := Bc; clear Bb Bc; clear ho hb hg hat))
     go_roundg k1
     case measure => omega
     case rel => exact ⟨j + 1, _, by first | rfl | rw [ew], by omega, H4, HO, HB⟩
    ·rw [if_neg hl] at h4
     cases h4
theorem round_bringsV_mono (k : Nat) (a0 a1 a2 a3 a4 a5 a6 a7 a8 a9 : Int) (B0 B1 : List Int) (mine : List S45) (lines : List ByteArray) (s w : Int) : LeO (round_bringsV k a0 a1 a2 a3 a4 a5 a6 a7 a8 a9 B0 B1 mine lines s w) (round_bringsV (k + 1) a0 a1 a2 a3 a4 a5 a6 a7 a8 a9 B0 B1 mine lines s w) := by
 unfold round_bringsV
 exact LeO.bind (round_machine_lies.mono _ _ _ _ _ _ _ _ _ _ _ _ _ _) (fun _ => LeO.ite (round_told.mono _ _ _ _) (LeO.refl _))
theorem round_dgo_mono {p q : Int → Int → Option (ByteArray × Bool)} (h : ∀ s o, LeO (p s o) (q s o)) (tb : List Int) (n : Int) : ∀ d i acc, LeO (round_dgo p tb n d i acc) (round_dgo q tb n d i acc)
 | 0, _, _ => LeO.refl _
 | d + 1, i, acc => LeO.bind (h _ _) (fun _ => LeO.ite (LeO.bind (LeO.refl _) (fun _ => LeO.ite (round_dgo_mono h tb n d (i + 1) _) (LeO.refl _))) (round_dgo_mono h tb n d (i + 1) acc))
def round_deliverP.f (k : Nat) (a0 a1 a2 a3 a4 a5 a6 a7 a8 a9 : Int) (B0 B3 : List Int) (e0 e1 e2 e3 e4 e5 e6 e7 e8 e9 : Int) (B1 B2 : List Int) (mine : List S45) (lines : List ByteArray) (n : Int) : Option (List S45) := round_dgo (round_bringsV k e0 e1 e2 e3 e4 e5 e6 e7 e8 e9 B1 B2 mine lines) B0 n B0.length 0 []
theorem round_deliverP.mono : ∀ a0 a1 a2 a3 a4 a5 a6 a7 a8 a9 B0 B3 e0 e1 e2 e3 e4 e5 e6 e7 e8 e9 B1 B2 mine lines n k, LeO (round_deliverP.f k a0 a1 a2 a3 a4 a5 a6 a7 a8 a9 B0 B3 e0 e1 e2 e3 e4 e5 e6 e7 e8 e9 B1 B2 mine lines n) (round_deliverP.f (k + 1) a0 a1 a2 a3 a4 a5 a6 a7 a8 a9 B0 B3 e0 e1 e2 e3 e4 e5 e6 e7 e8 e9 B1 B2 mine lines n) := by
 intro a0 a1 a2 a3 a4 a5 a6 a7 a8 a9 B0 B3 e0 e1 e2 e3 e4 e5 e6 e7 e8 e9 B1 B2 mine lines n k
 exact round_dgo_mono (fun s o => round_bringsV_mono k e0 e1 e2 e3 e4 e5 e6 e7 e8 e9 B1 B2 mine lines s o) B0 n _ _ _
theorem round_deliverP.calls {gm gn gr : Nat} {v0 v1 v3 : Value} (k : Nat) (a0 a1 a2 a3 a4 a5 a6 a7 a8 a9 : Int) (B4 : Option Addr) (B5 : Nat) (B2 : List Int) (B6 : Option Addr) (B7 : Nat) (B3 : List Int) (e0 e1 e2 e3 e4 e5 e6 e7 e8 e9 : Int) (B8 : Option Addr) (B9 : Nat) (B0 : List Int) (Ba : Option Addr) (Bb : Nat) (B1 : List Int) (A2 : Option Addr) (c2 : Nat) (mine : List S45) (A3 : Option Addr) (c3 : Nat) (lines : List ByteArray) (n : Int) (r : List S45) (w : World)
  (Bc : Kd.C (Kd.int .i64) w B4 B2.length B2) (Bi : B2.length ≤ B5) (Bj : Kd.C (Kd.int .i64) w B6 B3.length B3) (Bk : B3.length ≤ B7) (Bd : Kd.C (Kd.int .i64) w B8 B0.length B0) (Be : B0.length ≤ B9) (Bf : Kd.C (Kd.int .i64) w Ba B1.length B1) (Bg : B1.length ≤ Bb)
  (Bl : Kd.C k45 w A2 mine.length mine) (Bm : mine.length ≤ c2) (Bn : Kd.C Kd.string w A3 lines.length lines) (Bo : lines.length ≤ c3) (h : round_deliverP.f k a0 a1 a2 a3 a4 a5 a6 a7 a8 a9 B2 B3 e0 e1 e2 e3 e4 e5 e6 e7 e8 e9 B0 B1 mine lines n = some r)
  (hm : w.heap[gm]? = some (.cells #[.int .i64 e0, .int .i64 e1, .int .i64 e2, .int .i64 e3, .int .i64 e4, .int .i64 e5, .int .i64 e6, .int .i64 e7, .int .i64 e8, .int .i64 e9, .slice B8 B0.length B9, .slice Ba B1.length Bb] 47 (0, 0))) (hn : w.heap[gn]? = some (.cells #[.slice A2 mine.length c2] 42 (0, 0))) (hq : w.heap[gr]? = some (.cells #[v0, v1, .slice A3 lines.length c3, v3] 32 (0, 0))) :
  Calls Try.prog 23 #[.agg #[.int .i64 a0, .int .i64 a1, .int .i64 a2, .int .i64 a3, .int .i64 a4, .int .i64 a5, .int .i64 a6, .int .i64 a7, .int .i64 a8, .int .i64 a9, .slice B4 B2.length B5, .slice B6 B3.length B7], .func (.func 24) #[] #[.pointer (some ⟨gm, 0, none⟩), .pointer (some ⟨gn, 0, none⟩), .pointer (some ⟨gr, 0, none⟩)], .int .i64 n] w fun e w' => ∃ Bh : Value, e = .returned Bh ∧ Kd.R k45 45 w' w.heap.size (fun _ => True) Bh r ∧ Below w.heap.size w w' :=
 round_deliver.calls (round_bringsV k e0 e1 e2 e3 e4 e5 e6 e7 e8 e9 B0 B1 mine lines) a0 a1 a2 a3 a4 a5 a6 a7 a8 a9 B4 B5 B2 B6 B7 B3 n 24 #[.pointer (some ⟨gm, 0, none⟩), .pointer (some ⟨gn, 0, none⟩), .pointer (some ⟨gr, 0, none⟩)] (enters_of Try.func24 (by kernel_rfl) rfl) r w Bc
  (fun W hb s o t b hp => round_Play1.calls k e0 e1 e2 e3 e4 e5 e6 e7 e8 e9 B8 B9 B0 Ba Bb B1 A2 c2 mine A3 c3 lines s o t b gm gn gr W (Kd.C_below Bd hb) Be (Kd.C_below Bf hb) Bg (Kd.C_below Bl hb) Bm (Kd.C_below Bn hb) (blk_below hm hb) ((blk_cell (blk_below hn hb) 0).trans rfl) ((blk_cell (blk_below hq hb) 2).trans rfl) hp) h
end Go.Proofs.Ytdnccjlfongdeaa.Gn
