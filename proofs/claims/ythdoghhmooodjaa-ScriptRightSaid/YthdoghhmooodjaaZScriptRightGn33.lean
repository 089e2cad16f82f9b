import Derived.Test.YthdoghhmooodjaaZScriptRightGn0
import Derived.Test.YthdoghhmooodjaaZScriptRightGn1
namespace Go.Proofs.Ythdoghhmooodjaa.Gn
open Go.RowKit Go.Proofs.YthdoghhmooodjaaW.PrintWords Go.Proofs.YthdoghhmooodjaaW.PrintLast Go.Proofs.YthdoghhmooodjaaW.PrintMore
attribute [local go_sem] max2_int min2_int max_two min_two max_three min_three max_four min_four   -- for this text's walks alone
set_option linter.unusedVariables false
set_option linter.unusedSimpArgs false
mutual
def r33_long.l0 : Nat → List (S74) → Int → Int → List Int → List Int → List (S74) → List (S48) → List (S74) → List (S81) → Option (Bool)
 | 0, _, _, _, _, _, _, _, _, _ => none
 | k + 1, x10, x11, x12, x402000, x402001, x402002, x402003, x402004, x402005 => if x12 < x11 then (if 0 ≤ x12 then (if x12 < (x10.length : Int) then (if (((rd_T74 x10 x12).f3).size : Int) > 40 then (some true) else (r33_long.l0 k x10 x11 (wrap64 (x12 + 1)) x402000 x402001 x402002 x402003 x402004 x402005)) else (none)) else (none)) else (r33_long.l1 k x402004 (x402004.length : Int) 0 x402000 x402001 x402002 x402003 x402004 x402005)
def r33_long.l1 : Nat → List (S74) → Int → Int → List Int → List Int → List (S74) → List (S48) → List (S74) → List (S81) → Option (Bool)
 | 0, _, _, _, _, _, _, _, _, _ => none
 | k + 1, x22, x23, x24, x402000, x402001, x402002, x402003, x402004, x402005 => if x24 < x23 then (if 0 ≤ x24 then (if x24 < (x22.length : Int) then (if (((rd_T74 x22 x24).f3).size : Int) > 40 then (some true) else (r33_long.l1 k x22 x23 (wrap64 (x24 + 1)) x402000 x402001 x402002 x402003 x402004 x402005)) else (none)) else (none)) else (r33_long.l2 k x402003 (x402003.length : Int) 0)
def r33_long.l2 : Nat → List (S48) → Int → Int → Option (Bool)
 | 0, _, _, _ => none
 | k + 1, x34, x35, x36 => if x36 < x35 then (if 0 ≤ x36 then (if x36 < (x34.length : Int) then (if (((rd_T48 x34 x36).f1).size : Int) > 8000 then (some true) else (r33_long.l2 k x34 x35 (wrap64 (x36 + 1)))) else (none)) else (none)) else (some false)
end
def r33_long.f (k : Nat) (l0_0 l0_1 : List Int) (l0_2 : List (S74)) (l0_3 : List (S48)) (l0_4 : List (S74)) (l0_5 : List (S81)) : Option (Bool) := r33_long.l0 k l0_2 (l0_2.length : Int) 0 l0_0 l0_1 l0_2 l0_3 l0_4 l0_5
set_option maxHeartbeats 8000000 in
set_option maxRecDepth 100000 in
theorem r33_long.calls (k : Nat) (A0_0 : Option Addr) (c0_0 : Nat) (l0_0 : List Int) (A0_1 : Option Addr) (c0_1 : Nat) (l0_1 : List Int) (A0_2 : Option Addr) (c0_2 : Nat) (l0_2 : List (S74)) (A0_3 : Option Addr) (c0_3 : Nat) (l0_3 : List (S48)) (A0_4 : Option Addr) (c0_4 : Nat) (l0_4 : List (S74)) (A0_5 : Option Addr) (c0_5 : Nat) (l0_5 : List (S81)) (r : Bool) (w : World) (hr0_0 : Kd.C (Kd.int .i64) w A0_0 l0_0.length l0_0) (hc0_0 : l0_0.length ≤ c0_0) (hr0_1 : Kd.C (Kd.int .i64) w A0_1 l0_1.length l0_1) (hc0_1 : l0_1.length ≤ c0_1) (hr0_2 : Kd.C k74 w A0_2 l0_2.length l0_2) (hc0_2 : l0_2.length ≤ c0_2) (hr0_3 : Kd.C k48 w A0_3 l0_3.length l0_3) (hc0_3 : l0_3.length ≤ c0_3) (hr0_4 : Kd.C k74 w A0_4 l0_4.length l0_4) (hc0_4 : l0_4.length ≤ c0_4) (hr0_5 : Kd.C k81 w A0_5 l0_5.length l0_5) (hc0_5 : l0_5.length ≤ c0_5) (h : r33_long.f k l0_0 l0_1 l0_2 l0_3 l0_4 l0_5 = some r) :
  Calls Try.prog 80 #[.agg #[.slice A0_0 l0_0.length c0_0, .slice A0_1 l0_1.length c0_1, .slice A0_2 l0_2.length c0_2, .slice A0_3 l0_3.length c0_3, .slice A0_4 l0_4.length c0_4, .slice A0_5 l0_5.length c0_5]] w fun e w' => e = .returned (.bool r) ∧ Below w.heap.size w w' := by
 have hu44 := Try.underlying44
 have hu74 := Try.underlying74
 have hu48 := Try.underlying48
 have HR0_0 := am_ hr0_0
 have HC0_0 := am_ hc0_0
 clear hr0_0 hc0_0
 have HR0_1 := am_ hr0_1
 have HC0_1 := am_ hc0_1
 clear hr0_1 hc0_1
 have HR0_2 := am_ hr0_2
 have HC0_2 := am_ hc0_2
 clear hr0_2 hc0_2
 have HR0_3 := am_ hr0_3
 have HC0_3 := am_ hc0_3
 clear hr0_3 hc0_3
 have HR0_4 := am_ hr0_4
 have HC0_4 := am_ hc0_4
 clear hr0_4 hc0_4
 have HR0_5 := am_ hr0_5
 have HC0_5 := am_ hc0_5
 clear hr0_5 hc0_5
 have HB := am_ (Below.refl w.heap.size w)
 have H := h
 unfold r33_long.f at H
 clear h
 have H' := am_ H
 clear H
 go_enter Try.func80, Try.ntmps80
 go_wp2_with (first | ((with_reducible refine gate_dst (N := 1) rfl ?_); refine bxe_ 1 44 #[.slice A0_0 l0_0.length c0_0, .slice A0_1 l0_1.length c0_1, .slice A0_2 l0_2.length c0_2, .slice A0_3 l0_3.length c0_3, .slice A0_4 l0_4.length c0_4, .slice A0_5 l0_5.length c0_5] ?_; intro gb401 hg w2 hbox hb; have BK401 := am_ (hbox); have GW401 := gwk_ HB hg; have GE401 := GW401; replace HB := bst_ HB hb; clear hb hbox hg; have hcz3 := cells_6 BK401.out; have hfz3 := frozen_6 BK401.out))
 go_loopg [12] k (fun kq v12 w' => ∃ (x12_1 : Int), v12 = .int .i64 x12_1 ∧ Aside0 (r33_long.l0 kq l0_2 (l0_2.length : Int) x12_1 l0_0 l0_1 l0_2 l0_3 l0_4 l0_5 = some r) ∧ Aside0 (kq ≤ k) ∧ Aside0 (w'.heap[gb401]? = some (.cells #[(.slice A0_0 l0_0.length c0_0), (.slice A0_1 l0_1.length c0_1), (.slice A0_2 l0_2.length c0_2), (.slice A0_3 l0_3.length c0_3), (.slice A0_4 l0_4.length c0_4), (.slice A0_5 l0_5.length c0_5)] 44 (0, 0))) ∧ Aside0 (Below w.heap.size w w'))
 case atStart => exact ⟨(0), (by first | rfl | (simp; done) | (simp [*]; done)), H', ⟨Nat.le_refl _⟩, ⟨by (with_reducible repeat (first | apply kn_ | apply kd_ | apply ka_)); exact BK401.out⟩, ⟨by repeat (first | (with_reducible first | exact HB.out | apply ba_ | apply bn_ | apply bd_ | refine bs_ ?_ GE401.out) | exact HB.out)⟩⟩
 case round =>
  clear H'
  try clear p2
  try clear hcz3
  try clear hfz3
  obtain ⟨x12_1, rfl, HA, HK1, BK401, HB⟩ := hrel
  cases gk with
  | zero => exact absurd HA.out (by simp [r33_long.l0])
  | succ k1 =>
   have H := HA.out
   clear HA
   simp only [r33_long.l0] at H
   by_cases c4 : x12_1 < (l0_2.length : Int)
   ·rw [if_pos c4] at H
    have c4b0 : decide (x12_1 < (l0_2.length : Int)) = true := decide_eq_true c4
    clear c4
    by_cases c5 : 0 ≤ x12_1
    ·rw [if_pos c5] at H
     have c5b0 : decide (0 ≤ x12_1) = true := decide_eq_true c5
     clear c5
     by_cases c6 : x12_1 < (l0_2.length : Int)
     ·rw [if_pos c6] at H
      have c6b0 : decide (x12_1 < (l0_2.length : Int)) = true := decide_eq_true c6
      clear c6
      by_cases c7 : (((rd_T74 l0_2 x12_1).f3).size : Int) > 40
      ·rw [if_pos c7] at H
       have c7b0 : decide (40 < (((rd_T74 l0_2 x12_1).f3).size : Int)) = true := decide_eq_true c7
       have c7b1 : decide (40 < ((rd_T74 l0_2 x12_1).f3).size) = true := decide_eq_true (by omega)
       clear c7
       obtain rfl := Option.some.inj H
       have p402 : 0 ≤ (x12_1 : Int) := of_decide_eq_true (by first | (with_reducible assumption) | assumption)
       have q402 : x12_1 < (l0_2.length : Int) := of_decide_eq_true (by first | (with_reducible assumption) | assumption)
       obtain ⟨ad402, e402, hx402_0, hx402_1, hx402_2, hx402_3⟩ := at_T74 HR0_2.out x12_1 p402 q402
       cases e402
       replace hx402_0 := (HB.out.cell (World.block_lt_of_cell? w _ hx402_0)).trans hx402_0
       replace hx402_1 := (HB.out.cell (World.block_lt_of_cell? w _ hx402_1)).trans hx402_1
       replace hx402_2 := (HB.out.cell (World.block_lt_of_cell? w _ hx402_2)).trans hx402_2
       replace hx402_3 := (HB.out.cell (World.block_lt_of_cell? w _ hx402_3)).trans hx402_3
       replace p402 := eq_true p402
       replace q402 := eq_true q402
       go_wp2_with (first | ((with_reducible refine gate_dst (N := 4) rfl ?_); refine bxe_ 4 74 #[.int .i64 0, .int .i64 0, .int .i64 0, .string (⟨#[]⟩ : ByteArray)] ?_; intro gb403 hg w8 hbox hb; have BK403 := am_ (hbox); have GW403 := gwk_ HB hg; have GE403 := GW403; replace HB := bst_ HB hb; have NB401_403 := nbk_ BK401 hg; have NB403_401 := nbs_ NB401_403; replace BK401 := bkb_ BK401 hb; clear hb hbox hg; have hnb9 := NB403_401.out; have hnc9 := NB401_403.out; have hcz10 := cells_4 BK403.out; have hfz10 := frozen_4 BK403.out))
       go_ret
       exact ⟨by first | rfl | (simp [*] <;> rfl), by repeat (first | (with_reducible first | exact HB.out | apply ba_ | apply bn_ | apply bd_ | refine bs_ ?_ GE401.out | refine bs_ ?_ GE403.out) | exact HB.out)⟩
      ·rw [if_neg c7] at H
       have c7b0 : decide (40 < (((rd_T74 l0_2 x12_1).f3).size : Int)) = false := decide_eq_false c7
       have c7b1 : decide (40 < ((rd_T74 l0_2 x12_1).f3).size) = false := decide_eq_false (by omega)
       clear c7
       have H' := am_ H
       clear H
       have p402 : 0 ≤ (x12_1 : Int) := of_decide_eq_true (by first | (with_reducible assumption) | assumption)
       have q402 : x12_1 < (l0_2.length : Int) := of_decide_eq_true (by first | (with_reducible assumption) | assumption)
       obtain ⟨ad402, e402, hx402_0, hx402_1, hx402_2, hx402_3⟩ := at_T74 HR0_2.out x12_1 p402 q402
       cases e402
       replace hx402_0 := (HB.out.cell (World.block_lt_of_cell? w _ hx402_0)).trans hx402_0
       replace hx402_1 := (HB.out.cell (World.block_lt_of_cell? w _ hx402_1)).trans hx402_1
       replace hx402_2 := (HB.out.cell (World.block_lt_of_cell? w _ hx402_2)).trans hx402_2
       replace hx402_3 := (HB.out.cell (World.block_lt_of_cell? w _ hx402_3)).trans hx402_3
       replace p402 := eq_true p402
       replace q402 := eq_true q402
       go_wp2_with (first | ((with_reducible refine gate_dst (N := 4) rfl ?_); refine bxe_ 4 74 #[.int .i64 0, .int .i64 0, .int .i64 0, .string (⟨#[]⟩ : ByteArray)] ?_; intro gb403 hg w11 hbox hb; have BK403 := am_ (hbox); have GW403 := gwk_ HB hg; have GE403 := GW403; replace HB := bst_ HB hb; have NB401_403 := nbk_ BK401 hg; have NB403_401 := nbs_ NB401_403; replace BK401 := bkb_ BK401 hb; clear hb hbox hg; have hnb12 := NB403_401.out; have hnc12 := NB401_403.out; have hcz13 := cells_4 BK403.out; have hfz13 := frozen_4 BK403.out))
       go_roundg k1
       case measure => have := HK1.out; omega
       case rel => exact ⟨(wrap64 (x12_1 + 1)), (by first | rfl | (simp; done) | (simp [*]; done)), H', ⟨by have := HK1.out; omega⟩, ⟨by (iterate 4 ((with_reducible repeat (first | apply kn_ | apply kd_ | apply ka_)); refine blk_far ?_ NB401_403.out _)); (with_reducible repeat (first | apply kn_ | apply kd_ | apply ka_)); exact BK401.out⟩, ⟨by repeat (first | (with_reducible first | exact HB.out | apply ba_ | apply bn_ | apply bd_ | refine bs_ ?_ GE401.out | refine bs_ ?_ GE403.out) | exact HB.out)⟩⟩
     ·rw [if_neg c6] at H
      exact absurd H (by simp)
    ·rw [if_neg c5] at H
     exact absurd H (by simp)
   ·rw [if_neg c4] at H
    have c4b0 : decide (x12_1 < (l0_2.length : Int)) = false := decide_eq_false c4
    clear c4
    have H' := am_ H
    clear H
    have hcz14 := cells_6 BK401.out
    have hfz14 := frozen_6 BK401.out
    go_wp2
    go_loopg [24] k1 (fun kq v24 w' => ∃ (x24_2 : Int), v24 = .int .i64 x24_2 ∧ Aside0 (r33_long.l1 kq l0_4 (l0_4.length : Int) x24_2 l0_0 l0_1 l0_2 l0_3 l0_4 l0_5 = some r) ∧ Aside0 (kq ≤ k1) ∧ Aside0 (w'.heap[gb401]? = some (.cells #[(.slice A0_0 l0_0.length c0_0), (.slice A0_1 l0_1.length c0_1), (.slice A0_2 l0_2.length c0_2), (.slice A0_3 l0_3.length c0_3), (.slice A0_4 l0_4.length c0_4), (.slice A0_5 l0_5.length c0_5)] 44 (0, 0))) ∧ Aside0 (Below w.heap.size w w'))
    case atStart => exact ⟨(0), (by first | rfl | (simp; done) | (simp [*]; done)), H', ⟨Nat.le_refl _⟩, ⟨by (with_reducible repeat (first | apply kn_ | apply kd_ | apply ka_)); exact BK401.out⟩, ⟨by repeat (first | (with_reducible first | exact HB.out | apply ba_ | apply bn_ | apply bd_ | refine bs_ ?_ GE401.out) | exact HB.out)⟩⟩
    case round =>
     clear H'
     try clear c1
     try clear p2
     try clear c4
     try clear c4b0
     try clear p4
     try clear q4
     try clear hx4
     try clear c5
     try clear c5b0
     try clear c6
     try clear c6b0
     try clear p6
     try clear c7
     try clear c7b0
     try clear c7b1
     try clear c8
     try clear c9
     try clear c12
     try clear hcz10
     try clear hcz13
     try clear hcz14
     try clear hcz3
     try clear hfz10
     try clear hfz13
     try clear hfz14
     try clear hfz3
     try clear hx402_0
     try clear hx402_1
     try clear hx402_2
     try clear hx402_3
     try clear p2
     try clear p402
     try clear q402
     obtain ⟨x24_2, rfl, HA, HK2, BK401, HB⟩ := hrel
     cases gk with
     | zero => exact absurd HA.out (by simp [r33_long.l1])
     | succ k2 =>
      have H := HA.out
      clear HA
      simp only [r33_long.l1] at H
      by_cases c15 : x24_2 < (l0_4.length : Int)
      ·rw [if_pos c15] at H
       have c15b0 : decide (x24_2 < (l0_4.length : Int)) = true := decide_eq_true c15
       clear c15
       by_cases c16 : 0 ≤ x24_2
       ·rw [if_pos c16] at H
        have c16b0 : decide (0 ≤ x24_2) = true := decide_eq_true c16
        clear c16
        by_cases c17 : x24_2 < (l0_4.length : Int)
        ·rw [if_pos c17] at H
         have c17b0 : decide (x24_2 < (l0_4.length : Int)) = true := decide_eq_true c17
         clear c17
         by_cases c18 : (((rd_T74 l0_4 x24_2).f3).size : Int) > 40
         ·rw [if_pos c18] at H
          have c18b0 : decide (40 < (((rd_T74 l0_4 x24_2).f3).size : Int)) = true := decide_eq_true c18
          have c18b1 : decide (40 < ((rd_T74 l0_4 x24_2).f3).size) = true := decide_eq_true (by omega)
          clear c18
          obtain rfl := Option.some.inj H
          have p404 : 0 ≤ (x24_2 : Int) := of_decide_eq_true (by first | (with_reducible assumption) | assumption)
          have q404 : x24_2 < (l0_4.length : Int) := of_decide_eq_true (by first | (with_reducible assumption) | assumption)
          obtain ⟨ad404, e404, hx404_0, hx404_1, hx404_2, hx404_3⟩ := at_T74 HR0_4.out x24_2 p404 q404
          cases e404
          replace hx404_0 := (HB.out.cell (World.block_lt_of_cell? w _ hx404_0)).trans hx404_0
          replace hx404_1 := (HB.out.cell (World.block_lt_of_cell? w _ hx404_1)).trans hx404_1
          replace hx404_2 := (HB.out.cell (World.block_lt_of_cell? w _ hx404_2)).trans hx404_2
          replace hx404_3 := (HB.out.cell (World.block_lt_of_cell? w _ hx404_3)).trans hx404_3
          replace p404 := eq_true p404
          replace q404 := eq_true q404
          go_wp2_with (first | ((with_reducible refine gate_dst (N := 6) rfl ?_); refine bxe_ 6 74 #[.int .i64 0, .int .i64 0, .int .i64 0, .string (⟨#[]⟩ : ByteArray)] ?_; intro gb405 hg w19 hbox hb; have BK405 := am_ (hbox); have GW405 := gwk_ HB hg; have GE405 := GW405; replace HB := bst_ HB hb; have NB401_405 := nbk_ BK401 hg; have NB405_401 := nbs_ NB401_405; replace BK401 := bkb_ BK401 hb; clear hb hbox hg; have hnb20 := NB405_401.out; have hnc20 := NB401_405.out; have hcz21 := cells_4 BK405.out; have hfz21 := frozen_4 BK405.out))
          go_ret
          exact ⟨by first | rfl | (simp [*] <;> rfl), by repeat (first | (with_reducible first | exact HB.out | apply ba_ | apply bn_ | apply bd_ | refine bs_ ?_ GE401.out | refine bs_ ?_ GE405.out) | exact HB.out)⟩
         ·rw [if_neg c18] at H
          have c18b0 : decide (40 < (((rd_T74 l0_4 x24_2).f3).size : Int)) = false := decide_eq_false c18
          have c18b1 : decide (40 < ((rd_T74 l0_4 x24_2).f3).size) = false := decide_eq_false (by omega)
          clear c18
          have H' := am_ H
          clear H
          have p404 : 0 ≤ (x24_2 : Int) := of_decide_eq_true (by first | (with_reducible assumption) | assumption)
          have q404 : x24_2 < (l0_4.length : Int) := of_decide_eq_true (by first | (with_reducible assumption) | assumption)
          obtain ⟨ad404, e404, hx404_0, hx404_1, hx404_2, hx404_3⟩ := at_T74 HR0_4.out x24_2 p404 q404
          cases e404
          replace hx404_0 := (HB.out.cell (World.block_lt_of_cell? w _ hx404_0)).trans hx404_0
          replace hx404_1 := (HB.out.cell (World.block_lt_of_cell? w _ hx404_1)).trans hx404_1
          replace hx404_2 := (HB.out.cell (World.block_lt_of_cell? w _ hx404_2)).trans hx404_2
          replace hx404_3 := (HB.out.cell (World.block_lt_of_cell? w _ hx404_3)).trans hx404_3
          replace p404 := eq_true p404
          replace q404 := eq_true q404
          go_wp2_with (first | ((with_reducible refine gate_dst (N := 6) rfl ?_); refine bxe_ 6 74 #[.int .i64 0, .int .i64 0, .int .i64 0, .string (⟨#[]⟩ : ByteArray)] ?_; intro gb405 hg w22 hbox hb; have BK405 := am_ (hbox); have GW405 := gwk_ HB hg; have GE405 := GW405; replace HB := bst_ HB hb; have NB401_405 := nbk_ BK401 hg; have NB405_401 := nbs_ NB401_405; replace BK401 := bkb_ BK401 hb; clear hb hbox hg; have hnb23 := NB405_401.out; have hnc23 := NB401_405.out; have hcz24 := cells_4 BK405.out; have hfz24 := frozen_4 BK405.out))
          go_roundg k2
          case measure => have := HK1.out; have := HK2.out; omega
          case rel => exact ⟨(wrap64 (x24_2 + 1)), (by first | rfl | (simp; done) | (simp [*]; done)), H', ⟨by have := HK1.out; have := HK2.out; omega⟩, ⟨by (iterate 4 ((with_reducible repeat (first | apply kn_ | apply kd_ | apply ka_)); refine blk_far ?_ NB401_405.out _)); (with_reducible repeat (first | apply kn_ | apply kd_ | apply ka_)); exact BK401.out⟩, ⟨by repeat (first | (with_reducible first | exact HB.out | apply ba_ | apply bn_ | apply bd_ | refine bs_ ?_ GE401.out | refine bs_ ?_ GE405.out) | exact HB.out)⟩⟩
        ·rw [if_neg c17] at H
         exact absurd H (by simp)
       ·rw [if_neg c16] at H
        exact absurd H (by simp)
      ·rw [if_neg c15] at H
       have c15b0 : decide (x24_2 < (l0_4.length : Int)) = false := decide_eq_false c15
       clear c15
       have H' := am_ H
       clear H
       have hcz25 := cells_6 BK401.out
       have hfz25 := frozen_6 BK401.out
       go_wp2
       go_loopg [36] k2 (fun kq v36 w' => ∃ (x36_3 : Int), v36 = .int .i64 x36_3 ∧ Aside0 (r33_long.l2 kq l0_3 (l0_3.length : Int) x36_3 = some r) ∧ Aside0 (kq ≤ k2) ∧ Aside0 (w'.heap[gb401]? = some (.cells #[(.slice A0_0 l0_0.length c0_0), (.slice A0_1 l0_1.length c0_1), (.slice A0_2 l0_2.length c0_2), (.slice A0_3 l0_3.length c0_3), (.slice A0_4 l0_4.length c0_4), (.slice A0_5 l0_5.length c0_5)] 44 (0, 0))) ∧ Aside0 (Below w.heap.size w w'))
       case atStart => exact ⟨(0), (by first | rfl | (simp; done) | (simp [*]; done)), H', ⟨Nat.le_refl _⟩, ⟨by (with_reducible repeat (first | apply kn_ | apply kd_ | apply ka_)); exact BK401.out⟩, ⟨by repeat (first | (with_reducible first | exact HB.out | apply ba_ | apply bn_ | apply bd_ | refine bs_ ?_ GE401.out) | exact HB.out)⟩⟩
       case round =>
        clear H'
        try clear c1
        try clear c2
        try clear p2
        try clear c4
        try clear c4b0
        try clear p4
        try clear q4
        try clear hx4
        try clear c5
        try clear c5b0
        try clear c6
        try clear c6b0
        try clear p6
        try clear c7
        try clear c7b0
        try clear c7b1
        try clear c8
        try clear c9
        try clear c12
        try clear c15
        try clear c15b0
        try clear c16
        try clear c16b0
        try clear c17
        try clear c17b0
        try clear c18
        try clear c18b0
        try clear c18b1
        try clear c20
        try clear c23
        try clear hcz10
        try clear hcz13
        try clear hcz14
        try clear hcz21
        try clear hcz24
        try clear hcz25
        try clear hcz3
        try clear hfz10
        try clear hfz13
        try clear hfz14
        try clear hfz21
        try clear hfz24
        try clear hfz25
        try clear hfz3
        try clear hx402_0
        try clear hx402_1
        try clear hx402_2
        try clear hx402_3
        try clear hx404_0
        try clear hx404_1
        try clear hx404_2
        try clear hx404_3
        try clear p2
        try clear p4
        try clear p402
        try clear p404
        try clear p6
        try clear q4
        try clear q402
        try clear q404
        obtain ⟨x36_3, rfl, HA, HK3, BK401, HB⟩ := hrel
        cases gk with
        | zero => exact absurd HA.out (by simp [r33_long.l2])
        | succ k3 =>
         have H := HA.out
         clear HA
         simp only [r33_long.l2] at H
         by_cases c26 : x36_3 < (l0_3.length : Int)
         ·rw [if_pos c26] at H
          have c26b0 : decide (x36_3 < (l0_3.length : Int)) = true := decide_eq_true c26
          clear c26
          by_cases c27 : 0 ≤ x36_3
          ·rw [if_pos c27] at H
           have c27b0 : decide (0 ≤ x36_3) = true := decide_eq_true c27
           clear c27
           by_cases c28 : x36_3 < (l0_3.length : Int)
           ·rw [if_pos c28] at H
            have c28b0 : decide (x36_3 < (l0_3.length : Int)) = true := decide_eq_true c28
            clear c28
            by_cases c29 : (((rd_T48 l0_3 x36_3).f1).size : Int) > 8000
            ·rw [if_pos c29] at H
             have c29b0 : decide (8000 < (((rd_T48 l0_3 x36_3).f1).size : Int)) = true := decide_eq_true c29
             have c29b1 : decide (8000 < ((rd_T48 l0_3 x36_3).f1).size) = true := decide_eq_true (by omega)
             clear c29
             obtain rfl := Option.some.inj H
             have p406 : 0 ≤ (x36_3 : Int) := of_decide_eq_true (by first | (with_reducible assumption) | assumption)
             have q406 : x36_3 < (l0_3.length : Int) := of_decide_eq_true (by first | (with_reducible assumption) | assumption)
             obtain ⟨ad406, e406, hx406_0, hx406_1⟩ := at_T48 HR0_3.out x36_3 p406 q406
             cases e406
             replace hx406_0 := (HB.out.cell (World.block_lt_of_cell? w _ hx406_0)).trans hx406_0
             replace hx406_1 := (HB.out.cell (World.block_lt_of_cell? w _ hx406_1)).trans hx406_1
             replace p406 := eq_true p406
             replace q406 := eq_true q406
             go_wp2_with (first | ((with_reducible refine gate_dst (N := 8) rfl ?_); refine bxe_ 8 48 #[.int .i64 0, .string (⟨#[]⟩ : ByteArray)] ?_; intro gb407 hg w30 hbox hb; have BK407 := am_ (hbox); have GW407 := gwk_ HB hg; have GE407 := GW407; replace HB := bst_ HB hb; have NB401_407 := nbk_ BK401 hg; have NB407_401 := nbs_ NB401_407; replace BK401 := bkb_ BK401 hb; clear hb hbox hg; have hnb31 := NB407_401.out; have hnc31 := NB401_407.out; obtain ⟨hcz32_0, hcz32_1⟩ := cells_2 BK407.out; obtain ⟨hfz32_0, hfz32_1⟩ := frozen_2 BK407.out))
             go_ret
             exact ⟨by first | rfl | (simp [*] <;> rfl), by repeat (first | (with_reducible first | exact HB.out | apply ba_ | apply bn_ | apply bd_ | refine bs_ ?_ GE401.out | refine bs_ ?_ GE407.out) | exact HB.out)⟩
            ·rw [if_neg c29] at H
             have c29b0 : decide (8000 < (((rd_T48 l0_3 x36_3).f1).size : Int)) = false := decide_eq_false c29
             have c29b1 : decide (8000 < ((rd_T48 l0_3 x36_3).f1).size) = false := decide_eq_false (by omega)
             clear c29
             have H' := am_ H
             clear H
             have p406 : 0 ≤ (x36_3 : Int) := of_decide_eq_true (by first | (with_reducible assumption) | assumption)
             have q406 : x36_3 < (l0_3.length : Int) := of_decide_eq_true (by first | (with_reducible assumption) | assumption)
             obtain ⟨ad406, e406, hx406_0, hx406_1⟩ := at_T48 HR0_3.out x36_3 p406 q406
             cases e406
             replace hx406_0 := (HB.out.cell (World.block_lt_of_cell? w _ hx406_0)).trans hx406_0
             replace hx406_1 := (HB.out.cell (World.block_lt_of_cell? w _ hx406_1)).trans hx406_1
             replace p406 := eq_true p406
             replace q406 := eq_true q406
             go_wp2_with (first | ((with_reducible refine gate_dst (N := 8) rfl ?_); refine bxe_ 8 48 #[.int .i64 0, .string (⟨#[]⟩ : ByteArray)] ?_; intro gb407 hg w33 hbox hb; have BK407 := am_ (hbox); have GW407 := gwk_ HB hg; have GE407 := GW407; replace HB := bst_ HB hb; have NB401_407 := nbk_ BK401 hg; have NB407_401 := nbs_ NB401_407; replace BK401 := bkb_ BK401 hb; clear hb hbox hg; have hnb34 := NB407_401.out; have hnc34 := NB401_407.out; obtain ⟨hcz35_0, hcz35_1⟩ := cells_2 BK407.out; obtain ⟨hfz35_0, hfz35_1⟩ := frozen_2 BK407.out))
             go_roundg k3
             case measure => have := HK1.out; have := HK2.out; have := HK3.out; omega
             case rel => exact ⟨(wrap64 (x36_3 + 1)), (by first | rfl | (simp; done) | (simp [*]; done)), H', ⟨by have := HK1.out; have := HK2.out; have := HK3.out; omega⟩, ⟨by (iterate 2 ((with_reducible repeat (first | apply kn_ | apply kd_ | apply ka_)); refine blk_far ?_ NB401_407.out _)); (with_reducible repeat (first | apply kn_ | apply kd_ | apply ka_)); exact BK401.out⟩, ⟨by repeat (first | (with_reducible first | exact HB.out | apply ba_ | apply bn_ | apply bd_ | refine bs_ ?_ GE401.out | refine bs_ ?_ GE407.out) | exact HB.out)⟩⟩
           ·rw [if_neg c28] at H
            exact absurd H (by simp)
          ·rw [if_neg c27] at H
           exact absurd H (by simp)
         ·rw [if_neg c26] at H
          have c26b0 : decide (x36_3 < (l0_3.length : Int)) = false := decide_eq_false c26
          clear c26
          obtain rfl := Option.some.inj H
          go_wp2
          go_ret
          exact ⟨by first | rfl | (simp [*] <;> rfl), by repeat (first | (with_reducible first | exact HB.out | apply ba_ | apply bn_ | apply bd_ | refine bs_ ?_ GE401.out) | exact HB.out)⟩
end Go.Proofs.Ythdoghhmooodjaa.Gn
