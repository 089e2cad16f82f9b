import Derived.Test.YthdoghhmooodjaaZScriptReadsGn0
import Derived.Test.YthdoghhmooodjaaZScriptReadsGn1
import Derived.Test.YthdoghhmooodjaaZScriptReadsGn28
import Derived.Test.YthdoghhmooodjaaZScriptReadsGn29
namespace Go.Proofs.Ythdoghhmooodjaa.Gn
open Go.RowKit Go.Proofs.YthdoghhmooodjaaW.PrintWords Go.Proofs.YthdoghhmooodjaaW.PrintLast Go.Proofs.YthdoghhmooodjaaW.PrintMore
attribute [local go_sem] max2_int min2_int max_two min_two max_three min_three max_four min_four   -- for this text's walks alone
set_option linter.unusedVariables false
set_option linter.unusedSimpArgs false
def r33_Units.j0 : Nat → Int → Int → Bool → Int → Int → Int → Int → Int → Int → Int → Int → Int → Int → List Int → List Int → List ByteArray → List (S44) → Option (Int)
 | 0, _, _, _, _, _, _, _, _, _, _, _, _, _, _, _, _, _ => none
 | k + 1, x1, x2, x22, x402000, x402001, x402002, x402003, x402004, x402005, x402006, x402007, x402008, x402009, x402010, x402011, x402012, x402013 => if x22 = true then (some 0) else (if 0 ≤ x1 then (if x1 < (x402013.length : Int) then (if x2 < (((rd_T44 x402013 x1).f0).length : Int) then (if 0 ≤ x2 then (some (rd ((rd_T44 x402013 x1).f0) x2)) else (none)) else (some x402004)) else (none)) else (none))
def r33_Units.f (k : Nat) (a0_0 a0_1 a0_2 a0_3 a0_4 a0_5 a0_6 a0_7 a0_8 a0_9 : Int) (l0_10 l0_11 : List Int) (l0_12 : List ByteArray) (l0_13 : List (S44)) (a1 a2 : Int) : Option (Int) := if a1 < 0 then (r33_Units.j0 k a1 a2 true a0_0 a0_1 a0_2 a0_3 a0_4 a0_5 a0_6 a0_7 a0_8 a0_9 l0_10 l0_11 l0_12 l0_13) else (if a1 ≥ (l0_13.length : Int) then (r33_Units.j0 k a1 a2 true a0_0 a0_1 a0_2 a0_3 a0_4 a0_5 a0_6 a0_7 a0_8 a0_9 l0_10 l0_11 l0_12 l0_13) else ((r33_node.f a0_0 a0_1 a0_2 a0_3 a0_4 a0_5 a0_6 a0_7 a0_8 a0_9 l0_10 a2).bind fun t402 => (r33_Units.j0 k a1 a2 (!t402) a0_0 a0_1 a0_2 a0_3 a0_4 a0_5 a0_6 a0_7 a0_8 a0_9 l0_10 l0_11 l0_12 l0_13)))
set_option maxHeartbeats 8000000 in
set_option maxRecDepth 100000 in
theorem r33_Units.calls (k : Nat) (a0_0 a0_1 a0_2 a0_3 a0_4 a0_5 a0_6 a0_7 a0_8 a0_9 : Int) (A0_10 : Option Addr) (c0_10 : Nat) (l0_10 : List Int) (A0_11 : Option Addr) (c0_11 : Nat) (l0_11 : List Int) (A0_12 : Option Addr) (c0_12 : Nat) (l0_12 : List ByteArray) (A0_13 : Option Addr) (c0_13 : Nat) (l0_13 : List (S44)) (a1 a2 r : Int) (w : World) (hr0_10 : Kd.C (Kd.int .i64) w A0_10 l0_10.length l0_10) (hc0_10 : l0_10.length ≤ c0_10) (hr0_11 : Kd.C (Kd.int .i64) w A0_11 l0_11.length l0_11) (hc0_11 : l0_11.length ≤ c0_11) (hr0_12 : Kd.C Kd.string w A0_12 l0_12.length l0_12) (hc0_12 : l0_12.length ≤ c0_12) (hr0_13 : Kd.C k44 w A0_13 l0_13.length l0_13) (hc0_13 : l0_13.length ≤ c0_13) (h : r33_Units.f k a0_0 a0_1 a0_2 a0_3 a0_4 a0_5 a0_6 a0_7 a0_8 a0_9 l0_10 l0_11 l0_12 l0_13 a1 a2 = some r) :
  Calls Try.prog 15 #[.agg #[.int .i64 a0_0, .int .i64 a0_1, .int .i64 a0_2, .int .i64 a0_3, .int .i64 a0_4, .int .i64 a0_5, .int .i64 a0_6, .int .i64 a0_7, .int .i64 a0_8, .int .i64 a0_9, .slice A0_10 l0_10.length c0_10, .slice A0_11 l0_11.length c0_11, .slice A0_12 l0_12.length c0_12, .slice A0_13 l0_13.length c0_13], .int .i64 a1, .int .i64 a2] w fun e w' => e = .returned (.int .i64 r) ∧ Below w.heap.size w w' := by
 have hu24 := Try.underlying24
 have HR0_10 := am_ hr0_10
 have HC0_10 := am_ hc0_10
 clear hr0_10 hc0_10
 have HR0_11 := am_ hr0_11
 have HC0_11 := am_ hc0_11
 clear hr0_11 hc0_11
 have HR0_12 := am_ hr0_12
 have HC0_12 := am_ hc0_12
 clear hr0_12 hc0_12
 have HR0_13 := am_ hr0_13
 have HC0_13 := am_ hc0_13
 clear hr0_13 hc0_13
 have HB := am_ (Below.refl w.heap.size w)
 have H := h
 unfold r33_Units.f at H
 clear h
 have HC4 := am_ H
 clear H
 go_enter Try.func15, Try.ntmps15
 go_upto_region 1 with (first | ((with_reducible refine gate_load (t := 28) (x := .tmp 3) rfl ?_); refine lrg_ 28 (.tmp 3) gb401 28 (by exact BK401.out) Try.underlying28 ?_) | ((with_reducible refine gate_dst (N := 3) rfl ?_); (try (refine gate_guard (by rfl) ?_; dsimp only)); refine bxe_ 3 28 #[.int .i64 a0_0, .int .i64 a0_1, .int .i64 a0_2, .int .i64 a0_3, .int .i64 a0_4, .int .i64 a0_5, .int .i64 a0_6, .int .i64 a0_7, .int .i64 a0_8, .int .i64 a0_9, .slice A0_10 l0_10.length c0_10, .slice A0_11 l0_11.length c0_11, .slice A0_12 l0_12.length c0_12, .slice A0_13 l0_13.length c0_13] ?_; intro gb401 hg w5 hbox hb; have BK401 := am_ (hbox); have GW401 := gwk_ HB hg; have GE401 := GW401; replace HB := bst_ HB hb; clear hb hbox hg))
 (try simp only [Act.put, zs_])
 go_cut [22] (fun v22 wc => ∃ (kq : Nat) (x22_3 : Bool), v22 = .bool x22_3 ∧ Aside0 (r33_Units.j0 kq a1 a2 x22_3 a0_0 a0_1 a0_2 a0_3 a0_4 a0_5 a0_6 a0_7 a0_8 a0_9 l0_10 l0_11 l0_12 l0_13 = some r) ∧ Aside0 (kq ≤ k) ∧ Aside0 (wc.heap[gb401]? = some (.cells #[.int .i64 a0_0, .int .i64 a0_1, .int .i64 a0_2, .int .i64 a0_3, .int .i64 a0_4, .int .i64 a0_5, .int .i64 a0_6, .int .i64 a0_7, .int .i64 a0_8, .int .i64 a0_9, (.slice A0_10 l0_10.length c0_10), (.slice A0_11 l0_11.length c0_11), (.slice A0_12 l0_12.length c0_12), (.slice A0_13 l0_13.length c0_13)] 28 (0, 0))) ∧ Aside0 (Below w.heap.size w wc))
 case first =>
  have H := HC4.out
  clear HC4
  by_cases c6 : a1 < 0
  ·rw [if_pos c6] at H
   have c6b0 : decide (a1 < 0) = true := decide_eq_true c6
   clear c6
   (first | rw [c6b0] | (simp only [i64_w, i32_w]; rw [c6b0]) | skip)
   have H' := am_ H
   clear H
   go_wp2
   go_meet
   case rel => exact ⟨_, (true), (by first | rfl | (simp; done) | (simp [*]; done)), H', ⟨by first | omega | exact Nat.le_refl _⟩, ⟨by (with_reducible repeat (first | apply kn_ | apply kd_ | apply ka_)); exact BK401.out⟩, ⟨by repeat (first | (with_reducible first | exact HB.out | apply ba_ | apply bn_ | apply bd_ | refine bs_ ?_ GE401.out) | exact HB.out)⟩⟩
  ·rw [if_neg c6] at H
   have c6b0 : decide (a1 < 0) = false := decide_eq_false c6
   clear c6
   (first | rw [c6b0] | (simp only [i64_w, i32_w]; rw [c6b0]) | skip)
   by_cases c7 : a1 ≥ (l0_13.length : Int)
   ·rw [if_pos c7] at H
    have c7b0 : decide ((l0_13.length : Int) ≤ a1) = true := decide_eq_true c7
    clear c7
    have H' := am_ H
    clear H
    have hcz8 := cells_14 BK401.out
    have hfz8 := frozen_14 BK401.out
    go_wp2
    go_meet
    case rel => exact ⟨_, (true), (by first | rfl | (simp; done) | (simp [*]; done)), H', ⟨by first | omega | exact Nat.le_refl _⟩, ⟨by (with_reducible repeat (first | apply kn_ | apply kd_ | apply ka_)); exact BK401.out⟩, ⟨by repeat (first | (with_reducible first | exact HB.out | apply ba_ | apply bn_ | apply bd_ | refine bs_ ?_ GE401.out) | exact HB.out)⟩⟩
   ·rw [if_neg c7] at H
    have c7b0 : decide ((l0_13.length : Int) ≤ a1) = false := decide_eq_false c7
    clear c7
    obtain ⟨t402, A9, H⟩ := bes_ H
    try dsimp only at H
    have H' := am_ H
    clear H
    have hcz10 := cells_14 BK401.out
    have hfz10 := frozen_14 BK401.out
    go_wp2_with (first | ((with_reducible refine gate_load (t := 28) (x := .tmp 3) rfl ?_); refine lrg_ 28 (.tmp 3) gb401 28 (by exact BK401.out) Try.underlying28 ?_) | (go_at_call 43; (with_reducible refine (r33_node.calls a0_0 a0_1 a0_2 a0_3 a0_4 a0_5 a0_6 a0_7 a0_8 a0_9 _ _ l0_10 a2 _ _ (Kd.C_below HR0_10.out HB.out) HC0_10.out A9.out).mono ?_); rintro e w11 ⟨rfl, hb⟩; replace BK401 := bkb_ BK401 hb; replace HB := bst_ HB hb; (try clear hb)))
    go_meet
    case rel => exact ⟨_, (!t402), (by first | rfl | (simp; done) | (simp [*]; done)), H', ⟨by first | omega | exact Nat.le_refl _⟩, ⟨by (with_reducible repeat (first | apply kn_ | apply kd_ | apply ka_)); exact BK401.out⟩, ⟨by repeat (first | (with_reducible first | exact HB.out | apply ba_ | apply bn_ | apply bd_ | refine bs_ ?_ GE401.out) | exact HB.out)⟩⟩
 case rest =>
  clear HC4
  try clear c1
  try clear p2
  try clear c6
  try clear c6b0
  try clear c7
  try clear c7b0
  try clear hcz10
  try clear hcz8
  try clear hfz10
  try clear hfz8
  obtain ⟨kq, x22_3, rfl, HA, HJ3, BK401, HB⟩ := hcut
  cases kq with
  | zero => exact absurd HA.out (by simp [r33_Units.j0])
  | succ kj3 =>
   have H := HA.out
   clear HA
   simp only [r33_Units.j0] at H
   by_cases c12 : x22_3 = true
   ·subst c12
    rw [if_pos rfl] at H
    obtain rfl := Option.some.inj H
    go_wp2
    go_ret
    exact ⟨by first | rfl | (simp [*] <;> rfl), by repeat (first | (with_reducible first | exact HB.out | apply ba_ | apply bn_ | apply bd_ | refine bs_ ?_ GE401.out) | exact HB.out)⟩
   ·replace c12 := Bool.eq_false_iff.mpr c12
    subst c12
    rw [if_neg (show ¬ (false = true) by decide)] at H
    by_cases c13 : 0 ≤ a1
    ·rw [if_pos c13] at H
     have c13b0 : decide (0 ≤ a1) = true := decide_eq_true c13
     clear c13
     by_cases c14 : a1 < (l0_13.length : Int)
     ·rw [if_pos c14] at H
      have c14b0 : decide (a1 < (l0_13.length : Int)) = true := decide_eq_true c14
      clear c14
      by_cases c15 : a2 < (((rd_T44 l0_13 a1).f0).length : Int)
      ·rw [if_pos c15] at H
       have c15b0 : decide (a2 < (((rd_T44 l0_13 a1).f0).length : Int)) = true := decide_eq_true c15
       clear c15
       by_cases c16 : 0 ≤ a2
       ·rw [if_pos c16] at H
        have c16b0 : decide (0 ≤ a2) = true := decide_eq_true c16
        clear c16
        obtain rfl := Option.some.inj H
        have hcz17 := cells_14 BK401.out
        have hfz17 := frozen_14 BK401.out
        have p403 : 0 ≤ (a1 : Int) := of_decide_eq_true (by first | (with_reducible assumption) | assumption)
        have q403 : a1 < (l0_13.length : Int) := of_decide_eq_true (by first | (with_reducible assumption) | assumption)
        obtain ⟨ad403, A403_0, c403_0, A403_1, c403_1, A403_2, c403_2, A403_3, c403_3, A403_4, c403_4, A403_5, c403_5, e403, hx403_0, hx403_1, hx403_2, hx403_3, hx403_4, hx403_5, hl403_0, hi403_0, hl403_1, hi403_1, hl403_2, hi403_2, hl403_3, hi403_3, hl403_4, hi403_4, hl403_5, hi403_5⟩ := at_T44 HR0_13.out a1 p403 q403
        cases e403
        replace hx403_0 := (HB.out.cell (World.block_lt_of_cell? w _ hx403_0)).trans hx403_0
        replace hx403_1 := (HB.out.cell (World.block_lt_of_cell? w _ hx403_1)).trans hx403_1
        replace hx403_2 := (HB.out.cell (World.block_lt_of_cell? w _ hx403_2)).trans hx403_2
        replace hx403_3 := (HB.out.cell (World.block_lt_of_cell? w _ hx403_3)).trans hx403_3
        replace hx403_4 := (HB.out.cell (World.block_lt_of_cell? w _ hx403_4)).trans hx403_4
        replace hx403_5 := (HB.out.cell (World.block_lt_of_cell? w _ hx403_5)).trans hx403_5
        have HR403_0 := am_ hi403_0
        have HC403_0 := am_ hl403_0
        clear hi403_0 hl403_0
        have HR403_1 := am_ hi403_1
        have HC403_1 := am_ hl403_1
        clear hi403_1 hl403_1
        have HR403_2 := am_ hi403_2
        have HC403_2 := am_ hl403_2
        clear hi403_2 hl403_2
        have HR403_3 := am_ hi403_3
        have HC403_3 := am_ hl403_3
        clear hi403_3 hl403_3
        have HR403_4 := am_ hi403_4
        have HC403_4 := am_ hl403_4
        clear hi403_4 hl403_4
        have HR403_5 := am_ hi403_5
        have HC403_5 := am_ hl403_5
        clear hi403_5 hl403_5
        replace p403 := eq_true p403
        replace q403 := eq_true q403
        have p404 : 0 ≤ (a1 : Int) := of_decide_eq_true (by first | (with_reducible assumption) | assumption)
        have q404 : a1 < (l0_13.length : Int) := of_decide_eq_true (by first | (with_reducible assumption) | assumption)
        obtain ⟨ad404, A404_0, c404_0, A404_1, c404_1, A404_2, c404_2, A404_3, c404_3, A404_4, c404_4, A404_5, c404_5, e404, hx404_0, hx404_1, hx404_2, hx404_3, hx404_4, hx404_5, hl404_0, hi404_0, hl404_1, hi404_1, hl404_2, hi404_2, hl404_3, hi404_3, hl404_4, hi404_4, hl404_5, hi404_5⟩ := at_T44 HR0_13.out a1 p404 q404
        obtain rfl : ad403 = ad404 := (by injection e404)
        replace hx404_0 := (HB.out.cell (World.block_lt_of_cell? w _ hx404_0)).trans hx404_0
        replace hx404_1 := (HB.out.cell (World.block_lt_of_cell? w _ hx404_1)).trans hx404_1
        replace hx404_2 := (HB.out.cell (World.block_lt_of_cell? w _ hx404_2)).trans hx404_2
        replace hx404_3 := (HB.out.cell (World.block_lt_of_cell? w _ hx404_3)).trans hx404_3
        replace hx404_4 := (HB.out.cell (World.block_lt_of_cell? w _ hx404_4)).trans hx404_4
        replace hx404_5 := (HB.out.cell (World.block_lt_of_cell? w _ hx404_5)).trans hx404_5
        have HR404_0 := am_ hi404_0
        have HC404_0 := am_ hl404_0
        clear hi404_0 hl404_0
        have HR404_1 := am_ hi404_1
        have HC404_1 := am_ hl404_1
        clear hi404_1 hl404_1
        have HR404_2 := am_ hi404_2
        have HC404_2 := am_ hl404_2
        clear hi404_2 hl404_2
        have HR404_3 := am_ hi404_3
        have HC404_3 := am_ hl404_3
        clear hi404_3 hl404_3
        have HR404_4 := am_ hi404_4
        have HC404_4 := am_ hl404_4
        clear hi404_4 hl404_4
        have HR404_5 := am_ hi404_5
        have HC404_5 := am_ hl404_5
        clear hi404_5 hl404_5
        replace p404 := eq_true p404
        replace q404 := eq_true q404
        have ea_ := Option.some.inj (hx403_0.symm.trans hx404_0)
        injection ea_ with ea_ en_ ec_
        subst ea_
        subst ec_
        clear en_
        have ea_ := Option.some.inj (hx403_1.symm.trans hx404_1)
        injection ea_ with ea_ en_ ec_
        subst ea_
        subst ec_
        clear en_
        have ea_ := Option.some.inj (hx403_2.symm.trans hx404_2)
        injection ea_ with ea_ en_ ec_
        subst ea_
        subst ec_
        clear en_
        have ea_ := Option.some.inj (hx403_3.symm.trans hx404_3)
        injection ea_ with ea_ en_ ec_
        subst ea_
        subst ec_
        clear en_
        have ea_ := Option.some.inj (hx403_4.symm.trans hx404_4)
        injection ea_ with ea_ en_ ec_
        subst ea_
        subst ec_
        clear en_
        have ea_ := Option.some.inj (hx403_5.symm.trans hx404_5)
        injection ea_ with ea_ en_ ec_
        subst ea_
        subst ec_
        clear en_
        have p405 : 0 ≤ (a2 : Int) := of_decide_eq_true (by first | (with_reducible assumption) | assumption)
        have q405 : a2 < (((rd_T44 l0_13 a1).f0).length : Int) := of_decide_eq_true (by first | (with_reducible assumption) | assumption)
        obtain ⟨ad405, e405, hx405_0⟩ := Kd.at_int HR404_0.out a2 p405 q405
        cases e405
        replace hx405_0 := (HB.out.cell (World.block_lt_of_cell? w _ hx405_0)).trans hx405_0
        replace p405 := eq_true p405
        replace q405 := eq_true q405
        go_wp2
        go_ret
        exact ⟨by first | rfl | (simp [*] <;> rfl), by repeat (first | (with_reducible first | exact HB.out | apply ba_ | apply bn_ | apply bd_ | refine bs_ ?_ GE401.out) | exact HB.out)⟩
       ·rw [if_neg c16] at H
        exact absurd H (by simp)
      ·rw [if_neg c15] at H
       have c15b0 : decide (a2 < (((rd_T44 l0_13 a1).f0).length : Int)) = false := decide_eq_false c15
       clear c15
       obtain rfl := Option.some.inj H
       have hcz18 := cells_14 BK401.out
       have hfz18 := frozen_14 BK401.out
       have p403 : 0 ≤ (a1 : Int) := of_decide_eq_true (by first | (with_reducible assumption) | assumption)
       have q403 : a1 < (l0_13.length : Int) := of_decide_eq_true (by first | (with_reducible assumption) | assumption)
       obtain ⟨ad403, A403_0, c403_0, A403_1, c403_1, A403_2, c403_2, A403_3, c403_3, A403_4, c403_4, A403_5, c403_5, e403, hx403_0, hx403_1, hx403_2, hx403_3, hx403_4, hx403_5, hl403_0, hi403_0, hl403_1, hi403_1, hl403_2, hi403_2, hl403_3, hi403_3, hl403_4, hi403_4, hl403_5, hi403_5⟩ := at_T44 HR0_13.out a1 p403 q403
       cases e403
       replace hx403_0 := (HB.out.cell (World.block_lt_of_cell? w _ hx403_0)).trans hx403_0
       replace hx403_1 := (HB.out.cell (World.block_lt_of_cell? w _ hx403_1)).trans hx403_1
       replace hx403_2 := (HB.out.cell (World.block_lt_of_cell? w _ hx403_2)).trans hx403_2
       replace hx403_3 := (HB.out.cell (World.block_lt_of_cell? w _ hx403_3)).trans hx403_3
       replace hx403_4 := (HB.out.cell (World.block_lt_of_cell? w _ hx403_4)).trans hx403_4
       replace hx403_5 := (HB.out.cell (World.block_lt_of_cell? w _ hx403_5)).trans hx403_5
       have HR403_0 := am_ hi403_0
       have HC403_0 := am_ hl403_0
       clear hi403_0 hl403_0
       have HR403_1 := am_ hi403_1
       have HC403_1 := am_ hl403_1
       clear hi403_1 hl403_1
       have HR403_2 := am_ hi403_2
       have HC403_2 := am_ hl403_2
       clear hi403_2 hl403_2
       have HR403_3 := am_ hi403_3
       have HC403_3 := am_ hl403_3
       clear hi403_3 hl403_3
       have HR403_4 := am_ hi403_4
       have HC403_4 := am_ hl403_4
       clear hi403_4 hl403_4
       have HR403_5 := am_ hi403_5
       have HC403_5 := am_ hl403_5
       clear hi403_5 hl403_5
       replace p403 := eq_true p403
       replace q403 := eq_true q403
       go_wp2
       go_ret
       exact ⟨by first | rfl | (simp [*] <;> rfl), by repeat (first | (with_reducible first | exact HB.out | apply ba_ | apply bn_ | apply bd_ | refine bs_ ?_ GE401.out) | exact HB.out)⟩
     ·rw [if_neg c14] at H
      exact absurd H (by simp)
    ·rw [if_neg c13] at H
     exact absurd H (by simp)
def r33_Delay.j0 : Nat → Int → Int → Int → Bool → Int → Int → Int → Int → Int → Int → Int → Int → Int → Int → List Int → List Int → List ByteArray → List (S44) → Option (Int)
 | 0, _, _, _, _, _, _, _, _, _, _, _, _, _, _, _, _, _, _ => none
 | k + 1, x1, x2, x3, x32, x402000, x402001, x402002, x402003, x402004, x402005, x402006, x402007, x402008, x402009, x402010, x402011, x402012, x402013 => if x32 = true then (some 0) else ((r01_Clamp.f x402000 0 13).bind fun t404 => (if 0 ≤ x1 then (if x1 < (x402013.length : Int) then (if (wrap64 ((wrap64 (x2 * t404)) + x3)) < (((rd_T44 x402013 x1).f1).length : Int) then (if 0 ≤ (wrap64 ((wrap64 (x2 * t404)) + x3)) then (some (rd ((rd_T44 x402013 x1).f1) (wrap64 ((wrap64 (x2 * t404)) + x3)))) else (none)) else (some x402002)) else (none)) else (none)))
def r33_Delay.f (k : Nat) (a0_0 a0_1 a0_2 a0_3 a0_4 a0_5 a0_6 a0_7 a0_8 a0_9 : Int) (l0_10 l0_11 : List Int) (l0_12 : List ByteArray) (l0_13 : List (S44)) (a1 a2 a3 : Int) : Option (Int) := if a1 < 0 then (r33_Delay.j0 k a1 a2 a3 true a0_0 a0_1 a0_2 a0_3 a0_4 a0_5 a0_6 a0_7 a0_8 a0_9 l0_10 l0_11 l0_12 l0_13) else (if a1 ≥ (l0_13.length : Int) then (r33_Delay.j0 k a1 a2 a3 true a0_0 a0_1 a0_2 a0_3 a0_4 a0_5 a0_6 a0_7 a0_8 a0_9 l0_10 l0_11 l0_12 l0_13) else ((r33_node.f a0_0 a0_1 a0_2 a0_3 a0_4 a0_5 a0_6 a0_7 a0_8 a0_9 l0_10 a2).bind fun t402 => (if t402 = true then ((r33_node.f a0_0 a0_1 a0_2 a0_3 a0_4 a0_5 a0_6 a0_7 a0_8 a0_9 l0_10 a3).bind fun t403 => (r33_Delay.j0 k a1 a2 a3 (!t403) a0_0 a0_1 a0_2 a0_3 a0_4 a0_5 a0_6 a0_7 a0_8 a0_9 l0_10 l0_11 l0_12 l0_13)) else (r33_Delay.j0 k a1 a2 a3 true a0_0 a0_1 a0_2 a0_3 a0_4 a0_5 a0_6 a0_7 a0_8 a0_9 l0_10 l0_11 l0_12 l0_13))))
set_option maxHeartbeats 8000000 in
set_option maxRecDepth 100000 in
theorem r33_Delay.calls (k : Nat) (a0_0 a0_1 a0_2 a0_3 a0_4 a0_5 a0_6 a0_7 a0_8 a0_9 : Int) (A0_10 : Option Addr) (c0_10 : Nat) (l0_10 : List Int) (A0_11 : Option Addr) (c0_11 : Nat) (l0_11 : List Int) (A0_12 : Option Addr) (c0_12 : Nat) (l0_12 : List ByteArray) (A0_13 : Option Addr) (c0_13 : Nat) (l0_13 : List (S44)) (a1 a2 a3 r : Int) (w : World) (hr0_10 : Kd.C (Kd.int .i64) w A0_10 l0_10.length l0_10) (hc0_10 : l0_10.length ≤ c0_10) (hr0_11 : Kd.C (Kd.int .i64) w A0_11 l0_11.length l0_11) (hc0_11 : l0_11.length ≤ c0_11) (hr0_12 : Kd.C Kd.string w A0_12 l0_12.length l0_12) (hc0_12 : l0_12.length ≤ c0_12) (hr0_13 : Kd.C k44 w A0_13 l0_13.length l0_13) (hc0_13 : l0_13.length ≤ c0_13) (h : r33_Delay.f k a0_0 a0_1 a0_2 a0_3 a0_4 a0_5 a0_6 a0_7 a0_8 a0_9 l0_10 l0_11 l0_12 l0_13 a1 a2 a3 = some r) :
  Calls Try.prog 17 #[.agg #[.int .i64 a0_0, .int .i64 a0_1, .int .i64 a0_2, .int .i64 a0_3, .int .i64 a0_4, .int .i64 a0_5, .int .i64 a0_6, .int .i64 a0_7, .int .i64 a0_8, .int .i64 a0_9, .slice A0_10 l0_10.length c0_10, .slice A0_11 l0_11.length c0_11, .slice A0_12 l0_12.length c0_12, .slice A0_13 l0_13.length c0_13], .int .i64 a1, .int .i64 a2, .int .i64 a3] w fun e w' => e = .returned (.int .i64 r) ∧ Below w.heap.size w w' := by
 have hu24 := Try.underlying24
 have HR0_10 := am_ hr0_10
 have HC0_10 := am_ hc0_10
 clear hr0_10 hc0_10
 have HR0_11 := am_ hr0_11
 have HC0_11 := am_ hc0_11
 clear hr0_11 hc0_11
 have HR0_12 := am_ hr0_12
 have HC0_12 := am_ hc0_12
 clear hr0_12 hc0_12
 have HR0_13 := am_ hr0_13
 have HC0_13 := am_ hc0_13
 clear hr0_13 hc0_13
 have HB := am_ (Below.refl w.heap.size w)
 have H := h
 unfold r33_Delay.f at H
 clear h
 have HC5 := am_ H
 clear H
 go_enter Try.func17, Try.ntmps17
 go_upto_region 1 with (first | ((with_reducible refine gate_load (t := 28) (x := .tmp 4) rfl ?_); refine lrg_ 28 (.tmp 4) gb401 28 (by exact BK401.out) Try.underlying28 ?_) | ((with_reducible refine gate_dst (N := 4) rfl ?_); (try (refine gate_guard (by rfl) ?_; dsimp only)); refine bxe_ 4 28 #[.int .i64 a0_0, .int .i64 a0_1, .int .i64 a0_2, .int .i64 a0_3, .int .i64 a0_4, .int .i64 a0_5, .int .i64 a0_6, .int .i64 a0_7, .int .i64 a0_8, .int .i64 a0_9, .slice A0_10 l0_10.length c0_10, .slice A0_11 l0_11.length c0_11, .slice A0_12 l0_12.length c0_12, .slice A0_13 l0_13.length c0_13] ?_; intro gb401 hg w6 hbox hb; have BK401 := am_ (hbox); have GW401 := gwk_ HB hg; have GE401 := GW401; replace HB := bst_ HB hb; clear hb hbox hg))
 (try simp only [Act.put, zs_])
 go_cut [32] (fun v32 wc => ∃ (kq : Nat) (x32_4 : Bool), v32 = .bool x32_4 ∧ Aside0 (r33_Delay.j0 kq a1 a2 a3 x32_4 a0_0 a0_1 a0_2 a0_3 a0_4 a0_5 a0_6 a0_7 a0_8 a0_9 l0_10 l0_11 l0_12 l0_13 = some r) ∧ Aside0 (kq ≤ k) ∧ Aside0 (wc.heap[gb401]? = some (.cells #[.int .i64 a0_0, .int .i64 a0_1, .int .i64 a0_2, .int .i64 a0_3, .int .i64 a0_4, .int .i64 a0_5, .int .i64 a0_6, .int .i64 a0_7, .int .i64 a0_8, .int .i64 a0_9, (.slice A0_10 l0_10.length c0_10), (.slice A0_11 l0_11.length c0_11), (.slice A0_12 l0_12.length c0_12), (.slice A0_13 l0_13.length c0_13)] 28 (0, 0))) ∧ Aside0 (Below w.heap.size w wc))
 case first =>
  have H := HC5.out
  clear HC5
  by_cases c7 : a1 < 0
  ·rw [if_pos c7] at H
   have c7b0 : decide (a1 < 0) = true := decide_eq_true c7
   clear c7
   (first | rw [c7b0] | (simp only [i64_w, i32_w]; rw [c7b0]) | skip)
   have H' := am_ H
   clear H
   go_wp2
   go_meet
   case rel => exact ⟨_, (true), (by first | rfl | (simp; done) | (simp [*]; done)), H', ⟨by first | omega | exact Nat.le_refl _⟩, ⟨by (with_reducible repeat (first | apply kn_ | apply kd_ | apply ka_)); exact BK401.out⟩, ⟨by repeat (first | (with_reducible first | exact HB.out | apply ba_ | apply bn_ | apply bd_ | refine bs_ ?_ GE401.out) | exact HB.out)⟩⟩
  ·rw [if_neg c7] at H
   have c7b0 : decide (a1 < 0) = false := decide_eq_false c7
   clear c7
   (first | rw [c7b0] | (simp only [i64_w, i32_w]; rw [c7b0]) | skip)
   by_cases c8 : a1 ≥ (l0_13.length : Int)
   ·rw [if_pos c8] at H
    have c8b0 : decide ((l0_13.length : Int) ≤ a1) = true := decide_eq_true c8
    clear c8
    have H' := am_ H
    clear H
    have hcz9 := cells_14 BK401.out
    have hfz9 := frozen_14 BK401.out
    go_wp2
    go_meet
    case rel => exact ⟨_, (true), (by first | rfl | (simp; done) | (simp [*]; done)), H', ⟨by first | omega | exact Nat.le_refl _⟩, ⟨by (with_reducible repeat (first | apply kn_ | apply kd_ | apply ka_)); exact BK401.out⟩, ⟨by repeat (first | (with_reducible first | exact HB.out | apply ba_ | apply bn_ | apply bd_ | refine bs_ ?_ GE401.out) | exact HB.out)⟩⟩
   ·rw [if_neg c8] at H
    have c8b0 : decide ((l0_13.length : Int) ≤ a1) = false := decide_eq_false c8
    clear c8
    obtain ⟨t402, A10, H⟩ := bes_ H
    try dsimp only at H
    by_cases c11 : t402 = true
    ·subst c11
     rw [if_pos rfl] at H
     obtain ⟨t403, A12, H⟩ := bes_ H
     try dsimp only at H
     have H' := am_ H
     clear H
     have hcz13 := cells_14 BK401.out
     have hfz13 := frozen_14 BK401.out
     go_wp2_with (first | ((with_reducible refine gate_load (t := 28) (x := .tmp 4) rfl ?_); refine lrg_ 28 (.tmp 4) gb401 28 (by exact BK401.out) Try.underlying28 ?_) | (go_at_call 43; (with_reducible refine (r33_node.calls a0_0 a0_1 a0_2 a0_3 a0_4 a0_5 a0_6 a0_7 a0_8 a0_9 _ _ l0_10 a2 _ _ (Kd.C_below HR0_10.out HB.out) HC0_10.out A10.out).mono ?_); rintro e w14 ⟨rfl, hb⟩; replace BK401 := bkb_ BK401 hb; replace HB := bst_ HB hb; (try clear hb); have hall1_ := cells_14 BK401.out; have hall2_ := frozen_14 BK401.out) | (go_at_call 43; (with_reducible refine (r33_node.calls a0_0 a0_1 a0_2 a0_3 a0_4 a0_5 a0_6 a0_7 a0_8 a0_9 _ _ l0_10 a3 _ _ (Kd.C_below HR0_10.out HB.out) HC0_10.out A12.out).mono ?_); rintro e w16 ⟨rfl, hb⟩; replace BK401 := bkb_ BK401 hb; replace HB := bst_ HB hb; (try clear hb)))
     go_meet
     case rel => exact ⟨_, (!t403), (by first | rfl | (simp; done) | (simp [*]; done)), H', ⟨by first | omega | exact Nat.le_refl _⟩, ⟨by (with_reducible repeat (first | apply kn_ | apply kd_ | apply ka_)); exact BK401.out⟩, ⟨by repeat (first | (with_reducible first | exact HB.out | apply ba_ | apply bn_ | apply bd_ | refine bs_ ?_ GE401.out) | exact HB.out)⟩⟩
    ·replace c11 := Bool.eq_false_iff.mpr c11
     subst c11
     rw [if_neg (show ¬ (false = true) by decide)] at H
     have H' := am_ H
     clear H
     have hcz17 := cells_14 BK401.out
     have hfz17 := frozen_14 BK401.out
     go_wp2_with (first | ((with_reducible refine gate_load (t := 28) (x := .tmp 4) rfl ?_); refine lrg_ 28 (.tmp 4) gb401 28 (by exact BK401.out) Try.underlying28 ?_) | (go_at_call 43; (with_reducible refine (r33_node.calls a0_0 a0_1 a0_2 a0_3 a0_4 a0_5 a0_6 a0_7 a0_8 a0_9 _ _ l0_10 a2 _ _ (Kd.C_below HR0_10.out HB.out) HC0_10.out A10.out).mono ?_); rintro e w18 ⟨rfl, hb⟩; replace BK401 := bkb_ BK401 hb; replace HB := bst_ HB hb; (try clear hb)))
     go_meet
     case rel => exact ⟨_, (true), (by first | rfl | (simp; done) | (simp [*]; done)), H', ⟨by first | omega | exact Nat.le_refl _⟩, ⟨by (with_reducible repeat (first | apply kn_ | apply kd_ | apply ka_)); exact BK401.out⟩, ⟨by repeat (first | (with_reducible first | exact HB.out | apply ba_ | apply bn_ | apply bd_ | refine bs_ ?_ GE401.out) | exact HB.out)⟩⟩
 case rest =>
  clear HC5
  try clear c1
  try clear p2
  try clear c7
  try clear c7b0
  try clear c8
  try clear c8b0
  try clear c11
  try clear c17
  try clear hcz13
  try clear hcz15_0 hcz15_1 hcz15_2 hcz15_3 hcz15_4 hcz15_5 hcz15_6 hcz15_7 hcz15_8 hcz15_9 hcz15_10 hcz15_11 hcz15_12 hcz15_13
  try clear hcz17
  try clear hcz9
  try clear hfz13
  try clear hfz15_0 hfz15_1 hfz15_2 hfz15_3 hfz15_4 hfz15_5 hfz15_6 hfz15_7 hfz15_8 hfz15_9 hfz15_10 hfz15_11 hfz15_12 hfz15_13
  try clear hfz17
  try clear hfz9
  obtain ⟨kq, x32_4, rfl, HA, HJ4, BK401, HB⟩ := hcut
  cases kq with
  | zero => exact absurd HA.out (by simp [r33_Delay.j0])
  | succ kj4 =>
   have H := HA.out
   clear HA
   simp only [r33_Delay.j0] at H
   by_cases c19 : x32_4 = true
   ·subst c19
    rw [if_pos rfl] at H
    obtain rfl := Option.some.inj H
    go_wp2
    go_ret
    exact ⟨by first | rfl | (simp [*] <;> rfl), by repeat (first | (with_reducible first | exact HB.out | apply ba_ | apply bn_ | apply bd_ | refine bs_ ?_ GE401.out) | exact HB.out)⟩
   ·replace c19 := Bool.eq_false_iff.mpr c19
    subst c19
    rw [if_neg (show ¬ (false = true) by decide)] at H
    obtain ⟨t404, A20, H⟩ := bes_ H
    try dsimp only at H
    by_cases c21 : 0 ≤ a1
    ·rw [if_pos c21] at H
     have c21b0 : decide (0 ≤ a1) = true := decide_eq_true c21
     clear c21
     by_cases c22 : a1 < (l0_13.length : Int)
     ·rw [if_pos c22] at H
      have c22b0 : decide (a1 < (l0_13.length : Int)) = true := decide_eq_true c22
      clear c22
      by_cases c23 : (wrap64 ((wrap64 (a2 * t404)) + a3)) < (((rd_T44 l0_13 a1).f1).length : Int)
      ·rw [if_pos c23] at H
       have c23b0 : decide ((wrap64 ((wrap64 (a2 * t404)) + a3)) < (((rd_T44 l0_13 a1).f1).length : Int)) = true := decide_eq_true c23
       clear c23
       obtain ⟨ji24, hji24⟩ : ∃ j_ : Int, (wrap64 ((wrap64 (a2 * t404)) + a3)) = j_ := ⟨_, rfl⟩
       replace H : (if 0 ≤ (ji24) then (some (rd ((rd_T44 l0_13 a1).f1) (ji24))) else (none)) = some r := by first | (rw [hji24] at H; exact H) | (simp only [hji24] at H ⊢; exact H)
       (try rw [hji24] at c23b0)
       (try rw [hji24] at A20)
       have hji24w : (IntKind.i64.wrap ((wrap64 (a2 * t404)) + a3)) = ji24 := (i64_w _).trans hji24
       by_cases c25 : 0 ≤ (ji24)
       ·rw [if_pos c25] at H
        have c25b0 : decide (0 ≤ (ji24)) = true := decide_eq_true c25
        clear c25
        obtain rfl := Option.some.inj H
        have hcz26 := cells_14 BK401.out
        have hfz26 := frozen_14 BK401.out
        go_wp2_with (first | ((with_reducible refine gate_load (t := 28) (x := .tmp 4) rfl ?_); refine lrg_ 28 (.tmp 4) gb401 28 (by exact BK401.out) Try.underlying28 ?_) | ((with_reducible refine gate_callee (f := 50) rfl ?_); refine gom_ (some 37) Try.func50 (r01_Clamp.calls a0_0 0 13 _ _ A20.out) ?_; rintro e w27 ⟨rfl, hb⟩; refine ⟨_, rfl, ?_⟩; replace BK401 := bkb_ BK401 hb; replace HB := bst_ HB hb; (try clear hb); have hall3_ := cells_14 BK401.out; have hall4_ := frozen_14 BK401.out; have p405 : 0 ≤ (a1 : Int) := of_decide_eq_true (by first | (with_reducible assumption) | assumption); have q405 : a1 < (l0_13.length : Int) := of_decide_eq_true (by first | (with_reducible assumption) | assumption); obtain ⟨ad405, A405_0, c405_0, A405_1, c405_1, A405_2, c405_2, A405_3, c405_3, A405_4, c405_4, A405_5, c405_5, e405, hx405_0, hx405_1, hx405_2, hx405_3, hx405_4, hx405_5, hl405_0, hi405_0, hl405_1, hi405_1, hl405_2, hi405_2, hl405_3, hi405_3, hl405_4, hi405_4, hl405_5, hi405_5⟩ := at_T44 HR0_13.out a1 p405 q405; cases e405; replace hx405_0 := (HB.out.cell (World.block_lt_of_cell? w _ hx405_0)).trans hx405_0; replace hx405_1 := (HB.out.cell (World.block_lt_of_cell? w _ hx405_1)).trans hx405_1; replace hx405_2 := (HB.out.cell (World.block_lt_of_cell? w _ hx405_2)).trans hx405_2; replace hx405_3 := (HB.out.cell (World.block_lt_of_cell? w _ hx405_3)).trans hx405_3; replace hx405_4 := (HB.out.cell (World.block_lt_of_cell? w _ hx405_4)).trans hx405_4; replace hx405_5 := (HB.out.cell (World.block_lt_of_cell? w _ hx405_5)).trans hx405_5; have HR405_0 := am_ hi405_0; have HC405_0 := am_ hl405_0; clear hi405_0 hl405_0; have HR405_1 := am_ hi405_1; have HC405_1 := am_ hl405_1; clear hi405_1 hl405_1; have HR405_2 := am_ hi405_2; have HC405_2 := am_ hl405_2; clear hi405_2 hl405_2; have HR405_3 := am_ hi405_3; have HC405_3 := am_ hl405_3; clear hi405_3 hl405_3; have HR405_4 := am_ hi405_4; have HC405_4 := am_ hl405_4; clear hi405_4 hl405_4; have HR405_5 := am_ hi405_5; have HC405_5 := am_ hl405_5; clear hi405_5 hl405_5; replace p405 := eq_true p405; replace q405 := eq_true q405; have p406 : 0 ≤ (a1 : Int) := of_decide_eq_true (by first | (with_reducible assumption) | assumption); have q406 : a1 < (l0_13.length : Int) := of_decide_eq_true (by first | (with_reducible assumption) | assumption); obtain ⟨ad406, A406_0, c406_0, A406_1, c406_1, A406_2, c406_2, A406_3, c406_3, A406_4, c406_4, A406_5, c406_5, e406, hx406_0, hx406_1, hx406_2, hx406_3, hx406_4, hx406_5, hl406_0, hi406_0, hl406_1, hi406_1, hl406_2, hi406_2, hl406_3, hi406_3, hl406_4, hi406_4, hl406_5, hi406_5⟩ := at_T44 HR0_13.out a1 p406 q406; obtain rfl : ad405 = ad406 := (by injection e406); replace hx406_0 := (HB.out.cell (World.block_lt_of_cell? w _ hx406_0)).trans hx406_0; replace hx406_1 := (HB.out.cell (World.block_lt_of_cell? w _ hx406_1)).trans hx406_1; replace hx406_2 := (HB.out.cell (World.block_lt_of_cell? w _ hx406_2)).trans hx406_2; replace hx406_3 := (HB.out.cell (World.block_lt_of_cell? w _ hx406_3)).trans hx406_3; replace hx406_4 := (HB.out.cell (World.block_lt_of_cell? w _ hx406_4)).trans hx406_4; replace hx406_5 := (HB.out.cell (World.block_lt_of_cell? w _ hx406_5)).trans hx406_5; have HR406_0 := am_ hi406_0; have HC406_0 := am_ hl406_0; clear hi406_0 hl406_0; have HR406_1 := am_ hi406_1; have HC406_1 := am_ hl406_1; clear hi406_1 hl406_1; have HR406_2 := am_ hi406_2; have HC406_2 := am_ hl406_2; clear hi406_2 hl406_2; have HR406_3 := am_ hi406_3; have HC406_3 := am_ hl406_3; clear hi406_3 hl406_3; have HR406_4 := am_ hi406_4; have HC406_4 := am_ hl406_4; clear hi406_4 hl406_4; have HR406_5 := am_ hi406_5; have HC406_5 := am_ hl406_5; clear hi406_5 hl406_5; replace p406 := eq_true p406; replace q406 := eq_true q406; have ea_ := Option.some.inj (hx405_0.symm.trans hx406_0); injection ea_ with ea_ en_ ec_; subst ea_; subst ec_; clear en_; have ea_ := Option.some.inj (hx405_1.symm.trans hx406_1); injection ea_ with ea_ en_ ec_; subst ea_; subst ec_; clear en_; have ea_ := Option.some.inj (hx405_2.symm.trans hx406_2); injection ea_ with ea_ en_ ec_; subst ea_; subst ec_; clear en_; have ea_ := Option.some.inj (hx405_3.symm.trans hx406_3); injection ea_ with ea_ en_ ec_; subst ea_; subst ec_; clear en_; have ea_ := Option.some.inj (hx405_4.symm.trans hx406_4); injection ea_ with ea_ en_ ec_; subst ea_; subst ec_; clear en_; have ea_ := Option.some.inj (hx405_5.symm.trans hx406_5); injection ea_ with ea_ en_ ec_; subst ea_; subst ec_; clear en_; have p407 : 0 ≤ ((ji24) : Int) := of_decide_eq_true (by first | (with_reducible assumption) | assumption); have q407 : (ji24) < (((rd_T44 l0_13 a1).f1).length : Int) := of_decide_eq_true (by first | (with_reducible assumption) | assumption); obtain ⟨ad407, e407, hx407_0⟩ := Kd.at_int HR406_1.out (ji24) p407 q407; cases e407; replace hx407_0 := (HB.out.cell (World.block_lt_of_cell? w _ hx407_0)).trans hx407_0; replace p407 := eq_true p407; replace q407 := eq_true q407))
        go_ret
        exact ⟨by first | rfl | (simp [errW_none, errW_some] <;> rfl) | (simp only [← hji24]; first | rfl | (simp [errW_none, errW_some] <;> rfl)) | (simp [*, errW_none, errW_some] <;> rfl), by repeat (first | (with_reducible first | exact HB.out | apply ba_ | apply bn_ | apply bd_ | refine bs_ ?_ GE401.out) | exact HB.out)⟩
       ·rw [if_neg c25] at H
        exact absurd H (by simp)
      ·rw [if_neg c23] at H
       have c23b0 : decide ((wrap64 ((wrap64 (a2 * t404)) + a3)) < (((rd_T44 l0_13 a1).f1).length : Int)) = false := decide_eq_false c23
       clear c23
       obtain rfl := Option.some.inj H
       have hcz29 := cells_14 BK401.out
       have hfz29 := frozen_14 BK401.out
       go_wp2_with (first | ((with_reducible refine gate_load (t := 28) (x := .tmp 4) rfl ?_); refine lrg_ 28 (.tmp 4) gb401 28 (by exact BK401.out) Try.underlying28 ?_) | ((with_reducible refine gate_callee (f := 50) rfl ?_); refine gom_ (some 37) Try.func50 (r01_Clamp.calls a0_0 0 13 _ _ A20.out) ?_; rintro e w30 ⟨rfl, hb⟩; refine ⟨_, rfl, ?_⟩; replace BK401 := bkb_ BK401 hb; replace HB := bst_ HB hb; (try clear hb); have hall5_ := cells_14 BK401.out; have hall6_ := frozen_14 BK401.out; have p405 : 0 ≤ (a1 : Int) := of_decide_eq_true (by first | (with_reducible assumption) | assumption); have q405 : a1 < (l0_13.length : Int) := of_decide_eq_true (by first | (with_reducible assumption) | assumption); obtain ⟨ad405, A405_0, c405_0, A405_1, c405_1, A405_2, c405_2, A405_3, c405_3, A405_4, c405_4, A405_5, c405_5, e405, hx405_0, hx405_1, hx405_2, hx405_3, hx405_4, hx405_5, hl405_0, hi405_0, hl405_1, hi405_1, hl405_2, hi405_2, hl405_3, hi405_3, hl405_4, hi405_4, hl405_5, hi405_5⟩ := at_T44 HR0_13.out a1 p405 q405; cases e405; replace hx405_0 := (HB.out.cell (World.block_lt_of_cell? w _ hx405_0)).trans hx405_0; replace hx405_1 := (HB.out.cell (World.block_lt_of_cell? w _ hx405_1)).trans hx405_1; replace hx405_2 := (HB.out.cell (World.block_lt_of_cell? w _ hx405_2)).trans hx405_2; replace hx405_3 := (HB.out.cell (World.block_lt_of_cell? w _ hx405_3)).trans hx405_3; replace hx405_4 := (HB.out.cell (World.block_lt_of_cell? w _ hx405_4)).trans hx405_4; replace hx405_5 := (HB.out.cell (World.block_lt_of_cell? w _ hx405_5)).trans hx405_5; have HR405_0 := am_ hi405_0; have HC405_0 := am_ hl405_0; clear hi405_0 hl405_0; have HR405_1 := am_ hi405_1; have HC405_1 := am_ hl405_1; clear hi405_1 hl405_1; have HR405_2 := am_ hi405_2; have HC405_2 := am_ hl405_2; clear hi405_2 hl405_2; have HR405_3 := am_ hi405_3; have HC405_3 := am_ hl405_3; clear hi405_3 hl405_3; have HR405_4 := am_ hi405_4; have HC405_4 := am_ hl405_4; clear hi405_4 hl405_4; have HR405_5 := am_ hi405_5; have HC405_5 := am_ hl405_5; clear hi405_5 hl405_5; replace p405 := eq_true p405; replace q405 := eq_true q405))
       go_ret
       exact ⟨by first | rfl | (simp [*] <;> rfl), by repeat (first | (with_reducible first | exact HB.out | apply ba_ | apply bn_ | apply bd_ | refine bs_ ?_ GE401.out) | exact HB.out)⟩
     ·rw [if_neg c22] at H
      exact absurd H (by simp)
    ·rw [if_neg c21] at H
     exact absurd H (by simp)
end Go.Proofs.Ythdoghhmooodjaa.Gn
