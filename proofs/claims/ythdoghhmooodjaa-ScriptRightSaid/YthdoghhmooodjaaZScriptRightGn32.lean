import Derived.Test.YthdoghhmooodjaaZScriptRightGn0
import Derived.Test.YthdoghhmooodjaaZScriptRightGn1
import Derived.Test.YthdoghhmooodjaaZScriptRightGn28
namespace Go.Proofs.Ythdoghhmooodjaa.Gn
open Go.RowKit Go.Proofs.YthdoghhmooodjaaW.PrintWords Go.Proofs.YthdoghhmooodjaaW.PrintLast Go.Proofs.YthdoghhmooodjaaW.PrintMore
attribute [local go_sem] max2_int min2_int max_two min_two max_three min_three max_four min_four   -- for this text's walks alone
set_option linter.unusedVariables false
set_option linter.unusedSimpArgs false
mutual
def r33_nodes.l0 : Nat → List (S74) → Int → Int → Int → Int → Int → Int → Int → Int → Int → Int → Int → Int → List Int → List Int → List Int → List (S74) → List (S48) → List (S74) → List (S81) → Option (Bool)
 | 0, _, _, _, _, _, _, _, _, _, _, _, _, _, _, _, _, _, _, _, _ => none
 | k + 1, x14, x15, x16, x402000, x402001, x402002, x402003, x402004, x402005, x402006, x402007, x402008, x402009, x402010, x403000, x403001, x403002, x403003, x403004, x403005 => if x16 < x15 then (if 0 ≤ x16 then (if x16 < (x14.length : Int) then ((r33_node.f x402000 x402001 x402002 x402003 x402004 x402005 x402006 x402007 x402008 x402009 x402010 ((rd_T74 x14 x16).f0)).bind fun t405 => (if t405 = true then ((r33_node.f x402000 x402001 x402002 x402003 x402004 x402005 x402006 x402007 x402008 x402009 x402010 ((rd_T74 x14 x16).f1)).bind fun t406 => (if t406 = true then (r33_nodes.l0 k x14 x15 (wrap64 (x16 + 1)) x402000 x402001 x402002 x402003 x402004 x402005 x402006 x402007 x402008 x402009 x402010 x403000 x403001 x403002 x403003 x403004 x403005) else (some false))) else (some false))) else (none)) else (none)) else (r33_nodes.l1 k x403004 (x403004.length : Int) 0 x402000 x402001 x402002 x402003 x402004 x402005 x402006 x402007 x402008 x402009 x402010 x403000 x403001 x403002 x403003 x403004 x403005)
def r33_nodes.l1 : Nat → List (S74) → Int → Int → Int → Int → Int → Int → Int → Int → Int → Int → Int → Int → List Int → List Int → List Int → List (S74) → List (S48) → List (S74) → List (S81) → Option (Bool)
 | 0, _, _, _, _, _, _, _, _, _, _, _, _, _, _, _, _, _, _, _, _ => none
 | k + 1, x34, x35, x36, x402000, x402001, x402002, x402003, x402004, x402005, x402006, x402007, x402008, x402009, x402010, x403000, x403001, x403002, x403003, x403004, x403005 => if x36 < x35 then (if 0 ≤ x36 then (if x36 < (x34.length : Int) then ((r33_node.f x402000 x402001 x402002 x402003 x402004 x402005 x402006 x402007 x402008 x402009 x402010 ((rd_T74 x34 x36).f0)).bind fun t409 => (if t409 = true then ((r33_node.f x402000 x402001 x402002 x402003 x402004 x402005 x402006 x402007 x402008 x402009 x402010 ((rd_T74 x34 x36).f1)).bind fun t410 => (if t410 = true then (r33_nodes.l1 k x34 x35 (wrap64 (x36 + 1)) x402000 x402001 x402002 x402003 x402004 x402005 x402006 x402007 x402008 x402009 x402010 x403000 x403001 x403002 x403003 x403004 x403005) else (some false))) else (some false))) else (none)) else (none)) else (r33_nodes.l2 k x403003 (x403003.length : Int) 0 x402000 x402001 x402002 x402003 x402004 x402005 x402006 x402007 x402008 x402009 x402010 x403000 x403001 x403002 x403003 x403004 x403005)
def r33_nodes.l2 : Nat → List (S48) → Int → Int → Int → Int → Int → Int → Int → Int → Int → Int → Int → Int → List Int → List Int → List Int → List (S74) → List (S48) → List (S74) → List (S81) → Option (Bool)
 | 0, _, _, _, _, _, _, _, _, _, _, _, _, _, _, _, _, _, _, _, _ => none
 | k + 1, x54, x55, x56, x402000, x402001, x402002, x402003, x402004, x402005, x402006, x402007, x402008, x402009, x402010, x403000, x403001, x403002, x403003, x403004, x403005 => if x56 < x55 then (if 0 ≤ x56 then (if x56 < (x54.length : Int) then ((r33_node.f x402000 x402001 x402002 x402003 x402004 x402005 x402006 x402007 x402008 x402009 x402010 ((rd_T48 x54 x56).f0)).bind fun t413 => (if t413 = true then (r33_nodes.l2 k x54 x55 (wrap64 (x56 + 1)) x402000 x402001 x402002 x402003 x402004 x402005 x402006 x402007 x402008 x402009 x402010 x403000 x403001 x403002 x403003 x403004 x403005) else (some false))) else (none)) else (none)) else (r33_nodes.l3 k x403005 (x403005.length : Int) 0 x402000 x402001 x402002 x402003 x402004 x402005 x402006 x402007 x402008 x402009 x402010)
def r33_nodes.l3 : Nat → List (S81) → Int → Int → Int → Int → Int → Int → Int → Int → Int → Int → Int → Int → List Int → Option (Bool)
 | 0, _, _, _, _, _, _, _, _, _, _, _, _, _, _ => none
 | k + 1, x67, x68, x69, x402000, x402001, x402002, x402003, x402004, x402005, x402006, x402007, x402008, x402009, x402010 => if x69 < x68 then (if 0 ≤ x69 then (if x69 < (x67.length : Int) then ((r33_node.f x402000 x402001 x402002 x402003 x402004 x402005 x402006 x402007 x402008 x402009 x402010 ((rd_T81 x67 x69).f0)).bind fun t416 => (if t416 = true then (r33_nodes.l3 k x67 x68 (wrap64 (x69 + 1)) x402000 x402001 x402002 x402003 x402004 x402005 x402006 x402007 x402008 x402009 x402010) else (some false))) else (none)) else (none)) else (some true)
end
def r33_nodes.f (k : Nat) (a0_0 a0_1 a0_2 a0_3 a0_4 a0_5 a0_6 a0_7 a0_8 a0_9 : Int) (l0_10 l1_0 l1_1 : List Int) (l1_2 : List (S74)) (l1_3 : List (S48)) (l1_4 : List (S74)) (l1_5 : List (S81)) : Option (Bool) := r33_nodes.l0 k l1_2 (l1_2.length : Int) 0 a0_0 a0_1 a0_2 a0_3 a0_4 a0_5 a0_6 a0_7 a0_8 a0_9 l0_10 l1_0 l1_1 l1_2 l1_3 l1_4 l1_5
set_option maxHeartbeats 8000000 in
set_option maxRecDepth 100000 in
theorem r33_nodes.calls (k : Nat) (a0_0 a0_1 a0_2 a0_3 a0_4 a0_5 a0_6 a0_7 a0_8 a0_9 : Int) (A0_10 : Option Addr) (c0_10 : Nat) (l0_10 : List Int) (A1_0 : Option Addr) (c1_0 : Nat) (l1_0 : List Int) (A1_1 : Option Addr) (c1_1 : Nat) (l1_1 : List Int) (A1_2 : Option Addr) (c1_2 : Nat) (l1_2 : List (S74)) (A1_3 : Option Addr) (c1_3 : Nat) (l1_3 : List (S48)) (A1_4 : Option Addr) (c1_4 : Nat) (l1_4 : List (S74)) (A1_5 : Option Addr) (c1_5 : Nat) (l1_5 : List (S81)) (r : Bool) (w : World) (hr0_10 : Kd.C (Kd.int .i64) w A0_10 l0_10.length l0_10) (hc0_10 : l0_10.length ≤ c0_10) (hr1_0 : Kd.C (Kd.int .i64) w A1_0 l1_0.length l1_0) (hc1_0 : l1_0.length ≤ c1_0) (hr1_1 : Kd.C (Kd.int .i64) w A1_1 l1_1.length l1_1) (hc1_1 : l1_1.length ≤ c1_1) (hr1_2 : Kd.C k74 w A1_2 l1_2.length l1_2) (hc1_2 : l1_2.length ≤ c1_2) (hr1_3 : Kd.C k48 w A1_3 l1_3.length l1_3) (hc1_3 : l1_3.length ≤ c1_3) (hr1_4 : Kd.C k74 w A1_4 l1_4.length l1_4) (hc1_4 : l1_4.length ≤ c1_4) (hr1_5 : Kd.C k81 w A1_5 l1_5.length l1_5) (hc1_5 : l1_5.length ≤ c1_5) (h : r33_nodes.f k a0_0 a0_1 a0_2 a0_3 a0_4 a0_5 a0_6 a0_7 a0_8 a0_9 l0_10 l1_0 l1_1 l1_2 l1_3 l1_4 l1_5 = some r) :
  Calls Try.prog 79 #[.agg #[.int .i64 a0_0, .int .i64 a0_1, .int .i64 a0_2, .int .i64 a0_3, .int .i64 a0_4, .int .i64 a0_5, .int .i64 a0_6, .int .i64 a0_7, .int .i64 a0_8, .int .i64 a0_9, .slice A0_10 l0_10.length c0_10], .agg #[.slice A1_0 l1_0.length c1_0, .slice A1_1 l1_1.length c1_1, .slice A1_2 l1_2.length c1_2, .slice A1_3 l1_3.length c1_3, .slice A1_4 l1_4.length c1_4, .slice A1_5 l1_5.length c1_5]] w fun e w' => e = .returned (.bool r) ∧ Below w.heap.size w w' := by
 have hu24 := Try.underlying24
 have hu44 := Try.underlying44
 have hu74 := Try.underlying74
 have hu48 := Try.underlying48
 have hu81 := Try.underlying81
 have HR0_10 := am_ hr0_10
 have HC0_10 := am_ hc0_10
 clear hr0_10 hc0_10
 have HR1_0 := am_ hr1_0
 have HC1_0 := am_ hc1_0
 clear hr1_0 hc1_0
 have HR1_1 := am_ hr1_1
 have HC1_1 := am_ hc1_1
 clear hr1_1 hc1_1
 have HR1_2 := am_ hr1_2
 have HC1_2 := am_ hc1_2
 clear hr1_2 hc1_2
 have HR1_3 := am_ hr1_3
 have HC1_3 := am_ hc1_3
 clear hr1_3 hc1_3
 have HR1_4 := am_ hr1_4
 have HC1_4 := am_ hc1_4
 clear hr1_4 hc1_4
 have HR1_5 := am_ hr1_5
 have HC1_5 := am_ hc1_5
 clear hr1_5 hc1_5
 have HB := am_ (Below.refl w.heap.size w)
 have H := h
 unfold r33_nodes.f at H
 clear h
 have H' := am_ H
 clear H
 go_enter Try.func79, Try.ntmps79
 go_wp2_with (first | ((with_reducible refine gate_dst (N := 2) rfl ?_); refine bxe_ 2 24 #[.int .i64 a0_0, .int .i64 a0_1, .int .i64 a0_2, .int .i64 a0_3, .int .i64 a0_4, .int .i64 a0_5, .int .i64 a0_6, .int .i64 a0_7, .int .i64 a0_8, .int .i64 a0_9, .slice A0_10 l0_10.length c0_10] ?_; intro gb401 hg w3 hbox hb; have BK401 := am_ (hbox); have GW401 := gwk_ HB hg; have GE401 := GW401; replace HB := bst_ HB hb; clear hb hbox hg) | ((with_reducible refine gate_dst (N := 3) rfl ?_); refine bxe_ 3 44 #[.slice A1_0 l1_0.length c1_0, .slice A1_1 l1_1.length c1_1, .slice A1_2 l1_2.length c1_2, .slice A1_3 l1_3.length c1_3, .slice A1_4 l1_4.length c1_4, .slice A1_5 l1_5.length c1_5] ?_; intro gb402 hg w4 hbox hb; have BK402 := am_ (hbox); have GW402 := gwk_ HB hg; have GE402 := GW402; replace HB := bst_ HB hb; have NB401_402 := nbk_ BK401 hg; have NB402_401 := nbs_ NB401_402; replace BK401 := bkb_ BK401 hb; clear hb hbox hg; have hnb5 := NB402_401.out; have hnc5 := NB401_402.out; have hcz6 := cells_6 BK402.out; have hfz6 := frozen_6 BK402.out))
 go_loopg [16] k (fun kq v16 w' => ∃ (x16_1 : Int), v16 = .int .i64 x16_1 ∧ Aside0 (r33_nodes.l0 kq l1_2 (l1_2.length : Int) x16_1 a0_0 a0_1 a0_2 a0_3 a0_4 a0_5 a0_6 a0_7 a0_8 a0_9 l0_10 l1_0 l1_1 l1_2 l1_3 l1_4 l1_5 = some r) ∧ Aside0 (kq ≤ k) ∧ Aside0 (w'.heap[gb401]? = some (.cells #[.int .i64 a0_0, .int .i64 a0_1, .int .i64 a0_2, .int .i64 a0_3, .int .i64 a0_4, .int .i64 a0_5, .int .i64 a0_6, .int .i64 a0_7, .int .i64 a0_8, .int .i64 a0_9, (.slice A0_10 l0_10.length c0_10)] 24 (0, 0))) ∧ Aside0 (w'.heap[gb402]? = some (.cells #[(.slice A1_0 l1_0.length c1_0), (.slice A1_1 l1_1.length c1_1), (.slice A1_2 l1_2.length c1_2), (.slice A1_3 l1_3.length c1_3), (.slice A1_4 l1_4.length c1_4), (.slice A1_5 l1_5.length c1_5)] 44 (0, 0))) ∧ Aside0 (Below w.heap.size w w'))
 case atStart => exact ⟨(0), (by first | rfl | (simp; done) | (simp [*]; done)), H', ⟨Nat.le_refl _⟩, ⟨by (with_reducible repeat (first | apply kn_ | apply kd_ | apply ka_)); exact BK401.out⟩, ⟨by (with_reducible repeat (first | apply kn_ | apply kd_ | apply ka_)); exact BK402.out⟩, ⟨by repeat (first | (with_reducible first | exact HB.out | apply ba_ | apply bn_ | apply bd_ | refine bs_ ?_ GE401.out | refine bs_ ?_ GE402.out) | exact HB.out)⟩⟩
 case round =>
  clear H'
  try clear c1
  try clear p2
  try clear c5
  try clear hcz6
  try clear hfz6
  obtain ⟨x16_1, rfl, HA, HK1, BK401, BK402, HB⟩ := hrel
  cases gk with
  | zero => exact absurd HA.out (by simp [r33_nodes.l0])
  | succ k1 =>
   have H := HA.out
   clear HA
   simp only [r33_nodes.l0] at H
   by_cases c7 : x16_1 < (l1_2.length : Int)
   ·rw [if_pos c7] at H
    have c7b0 : decide (x16_1 < (l1_2.length : Int)) = true := decide_eq_true c7
    clear c7
    by_cases c8 : 0 ≤ x16_1
    ·rw [if_pos c8] at H
     have c8b0 : decide (0 ≤ x16_1) = true := decide_eq_true c8
     clear c8
     by_cases c9 : x16_1 < (l1_2.length : Int)
     ·rw [if_pos c9] at H
      have c9b0 : decide (x16_1 < (l1_2.length : Int)) = true := decide_eq_true c9
      clear c9
      obtain ⟨t405, A10, H⟩ := bes_ H
      try dsimp only at H
      by_cases c11 : t405 = true
      subst c11
      rw [if_pos rfl] at H
      obtain ⟨t406, A12, H⟩ := bes_ H
      try dsimp only at H
      by_cases c13 : t406 = true
      ·subst c13
       rw [if_pos rfl] at H
       have H' := am_ H
       clear H
       have p403 : 0 ≤ (x16_1 : Int) := of_decide_eq_true (by first | (with_reducible assumption) | assumption)
       have q403 : x16_1 < (l1_2.length : Int) := of_decide_eq_true (by first | (with_reducible assumption) | assumption)
       obtain ⟨ad403, e403, hx403_0, hx403_1, hx403_2, hx403_3⟩ := at_T74 HR1_2.out x16_1 p403 q403
       cases e403
       replace hx403_0 := (HB.out.cell (World.block_lt_of_cell? w _ hx403_0)).trans hx403_0
       replace hx403_1 := (HB.out.cell (World.block_lt_of_cell? w _ hx403_1)).trans hx403_1
       replace hx403_2 := (HB.out.cell (World.block_lt_of_cell? w _ hx403_2)).trans hx403_2
       replace hx403_3 := (HB.out.cell (World.block_lt_of_cell? w _ hx403_3)).trans hx403_3
       replace p403 := eq_true p403
       replace q403 := eq_true q403
       go_wp2_with (first | ((with_reducible refine gate_dst (N := 6) rfl ?_); refine bxe_ 6 74 #[.int .i64 0, .int .i64 0, .int .i64 0, .string (⟨#[]⟩ : ByteArray)] ?_; intro gb404 hg w14 hbox hb; have BK404 := am_ (hbox); have GW404 := gwk_ HB hg; have GE404 := GW404; replace HB := bst_ HB hb; have NB401_404 := nbk_ BK401 hg; have NB404_401 := nbs_ NB401_404; replace BK401 := bkb_ BK401 hb; have NB402_404 := nbk_ BK402 hg; have NB404_402 := nbs_ NB402_404; replace BK402 := bkb_ BK402 hb; clear hb hbox hg; have hnb15 := NB404_401.out; have hnc15 := NB401_404.out; have hnb16 := NB404_402.out; have hnc16 := NB402_404.out; have hcz17 := cells_4 BK404.out; have hfz17 := frozen_4 BK404.out; have hnb18 := NB401_402.out; have hnc18 := NB402_401.out; have hcz19 := cells_11 BK401.out; have hfz19 := frozen_11 BK401.out) | ((with_reducible refine gate_callee (f := 43) rfl ?_); refine gom_ (some 23) Try.func43 (r33_node.calls a0_0 a0_1 a0_2 a0_3 a0_4 a0_5 a0_6 a0_7 a0_8 a0_9 _ _ l0_10 ((rd_T74 l1_2 x16_1).f0) _ _ ?side1 HC0_10.out A10.out) ?_; (case side1 => exact Kd.C_below HR0_10.out (by repeat (first | (with_reducible first | exact HB.out | apply ba_ | apply bn_ | apply bd_ | refine bs_ ?_ GE401.out | refine bs_ ?_ GE402.out | refine bs_ ?_ GE404.out) | exact HB.out))); rintro e w20 ⟨rfl, hb⟩; refine ⟨_, rfl, ?_⟩; replace BK401 := am_ (blk_below (g := gb401) (o := .cells #[.int .i64 a0_0, .int .i64 a0_1, .int .i64 a0_2, .int .i64 a0_3, .int .i64 a0_4, .int .i64 a0_5, .int .i64 a0_6, .int .i64 a0_7, .int .i64 a0_8, .int .i64 a0_9, .slice A0_10 l0_10.length c0_10] 24 (0, 0)) (by (iterate 4 ((with_reducible repeat (first | apply kn_ | apply kd_ | apply ka_)); refine blk_far ?_ NB401_404.out _)); (with_reducible repeat (first | apply kn_ | apply kd_ | apply ka_)); exact BK401.out) hb); replace BK402 := am_ (blk_below (g := gb402) (o := .cells #[.slice A1_0 l1_0.length c1_0, .slice A1_1 l1_1.length c1_1, .slice (some ad403) l1_2.length c1_2, .slice A1_3 l1_3.length c1_3, .slice A1_4 l1_4.length c1_4, .slice A1_5 l1_5.length c1_5] 44 (0, 0)) (by (iterate 4 ((with_reducible repeat (first | apply kn_ | apply kd_ | apply ka_)); refine blk_far ?_ NB402_404.out _)); (with_reducible repeat (first | apply kn_ | apply kd_ | apply ka_)); exact BK402.out) hb); replace BK404 := am_ (blk_below (g := gb404) (o := .cells #[.int .i64 ((rd_T74 l1_2 x16_1).f0), .int .i64 ((rd_T74 l1_2 x16_1).f1), .int .i64 ((rd_T74 l1_2 x16_1).f2), .string ((rd_T74 l1_2 x16_1).f3)] 74 (0, 0)) (by (with_reducible repeat (first | apply kn_ | apply kd_ | apply ka_)); refine blk_put (cs := #[.int .i64 ((rd_T74 l1_2 x16_1).f0), .int .i64 ((rd_T74 l1_2 x16_1).f1), .int .i64 ((rd_T74 l1_2 x16_1).f2), .string (⟨#[]⟩ : ByteArray)]) ?_ 3 _ rfl; (with_reducible repeat (first | apply kn_ | apply kd_ | apply ka_)); refine blk_put (cs := #[.int .i64 ((rd_T74 l1_2 x16_1).f0), .int .i64 ((rd_T74 l1_2 x16_1).f1), .int .i64 0, .string (⟨#[]⟩ : ByteArray)]) ?_ 2 _ rfl; (with_reducible repeat (first | apply kn_ | apply kd_ | apply ka_)); refine blk_put (cs := #[.int .i64 ((rd_T74 l1_2 x16_1).f0), .int .i64 0, .int .i64 0, .string (⟨#[]⟩ : ByteArray)]) ?_ 1 _ rfl; (with_reducible repeat (first | apply kn_ | apply kd_ | apply ka_)); refine blk_put (cs := #[.int .i64 0, .int .i64 0, .int .i64 0, .string (⟨#[]⟩ : ByteArray)]) ?_ 0 _ rfl; (with_reducible repeat (first | apply kn_ | apply kd_ | apply ka_)); exact BK404.out) hb); replace HB := am_ (below_step (by repeat (first | (with_reducible first | exact HB.out | apply ba_ | apply bn_ | apply bd_ | refine bs_ ?_ GE401.out | refine bs_ ?_ GE402.out | refine bs_ ?_ GE404.out) | exact HB.out)) hb); (try clear hb); have hcz21 := cells_11 BK401.out; have hfz21 := frozen_11 BK401.out; have hcz22 := cells_4 BK404.out; have hfz22 := frozen_4 BK404.out) | (go_at_call 43; (with_reducible refine (r33_node.calls a0_0 a0_1 a0_2 a0_3 a0_4 a0_5 a0_6 a0_7 a0_8 a0_9 _ _ l0_10 ((rd_T74 l1_2 x16_1).f1) _ _ (Kd.C_below HR0_10.out HB.out) HC0_10.out A12.out).mono ?_); rintro e w23 ⟨rfl, hb⟩; replace BK401 := bkb_ BK401 hb; replace BK402 := bkb_ BK402 hb; replace BK404 := bkb_ BK404 hb; replace HB := bst_ HB hb; (try clear hb)))
       go_roundg k1
       case measure => have := HK1.out; omega
       case rel => exact ⟨(wrap64 (x16_1 + 1)), (by first | rfl | (simp; done) | (simp [*]; done)), H', ⟨by have := HK1.out; omega⟩, ⟨by (with_reducible repeat (first | apply kn_ | apply kd_ | apply ka_)); exact BK401.out⟩, ⟨by (with_reducible repeat (first | apply kn_ | apply kd_ | apply ka_)); exact BK402.out⟩, ⟨by repeat (first | (with_reducible first | exact HB.out | apply ba_ | apply bn_ | apply bd_ | refine bs_ ?_ GE401.out | refine bs_ ?_ GE402.out | refine bs_ ?_ GE404.out) | exact HB.out)⟩⟩
      replace c13 := Bool.eq_false_iff.mpr c13
      subst c13
      rw [if_neg (show ¬ (false = true) by decide)] at H
      obtain rfl := Option.some.inj H
      rotate_left
      replace c11 := Bool.eq_false_iff.mpr c11
      subst c11
      rw [if_neg (show ¬ (false = true) by decide)] at H
      obtain rfl := Option.some.inj H
      rotate_left
      all_goals
       have p403 : 0 ≤ (x16_1 : Int) := of_decide_eq_true (by first | (with_reducible assumption) | assumption)
       have q403 : x16_1 < (l1_2.length : Int) := of_decide_eq_true (by first | (with_reducible assumption) | assumption)
       obtain ⟨ad403, e403, hx403_0, hx403_1, hx403_2, hx403_3⟩ := at_T74 HR1_2.out x16_1 p403 q403
       cases e403
       replace hx403_0 := (HB.out.cell (World.block_lt_of_cell? w _ hx403_0)).trans hx403_0
       replace hx403_1 := (HB.out.cell (World.block_lt_of_cell? w _ hx403_1)).trans hx403_1
       replace hx403_2 := (HB.out.cell (World.block_lt_of_cell? w _ hx403_2)).trans hx403_2
       replace hx403_3 := (HB.out.cell (World.block_lt_of_cell? w _ hx403_3)).trans hx403_3
       replace p403 := eq_true p403
       replace q403 := eq_true q403
      ·go_wp2_with (first | ((with_reducible refine gate_dst (N := 6) rfl ?_); refine bxe_ 6 74 #[.int .i64 0, .int .i64 0, .int .i64 0, .string (⟨#[]⟩ : ByteArray)] ?_; intro gb404 hg w24 hbox hb; have BK404 := am_ (hbox); have GW404 := gwk_ HB hg; have GE404 := GW404; replace HB := bst_ HB hb; have NB401_404 := nbk_ BK401 hg; have NB404_401 := nbs_ NB401_404; replace BK401 := bkb_ BK401 hb; have NB402_404 := nbk_ BK402 hg; have NB404_402 := nbs_ NB402_404; replace BK402 := bkb_ BK402 hb; clear hb hbox hg; have hnb25 := NB404_401.out; have hnc25 := NB401_404.out; have hnb26 := NB404_402.out; have hnc26 := NB402_404.out; have hcz27 := cells_4 BK404.out; have hfz27 := frozen_4 BK404.out; have hnb28 := NB401_402.out; have hnc28 := NB402_401.out; have hcz29 := cells_11 BK401.out; have hfz29 := frozen_11 BK401.out) | ((with_reducible refine gate_callee (f := 43) rfl ?_); refine gom_ (some 23) Try.func43 (r33_node.calls a0_0 a0_1 a0_2 a0_3 a0_4 a0_5 a0_6 a0_7 a0_8 a0_9 _ _ l0_10 ((rd_T74 l1_2 x16_1).f0) _ _ ?side1 HC0_10.out A10.out) ?_; (case side1 => exact Kd.C_below HR0_10.out (by repeat (first | (with_reducible first | exact HB.out | apply ba_ | apply bn_ | apply bd_ | refine bs_ ?_ GE401.out | refine bs_ ?_ GE402.out | refine bs_ ?_ GE404.out) | exact HB.out))); rintro e w30 ⟨rfl, hb⟩; refine ⟨_, rfl, ?_⟩; replace BK401 := am_ (blk_below (g := gb401) (o := .cells #[.int .i64 a0_0, .int .i64 a0_1, .int .i64 a0_2, .int .i64 a0_3, .int .i64 a0_4, .int .i64 a0_5, .int .i64 a0_6, .int .i64 a0_7, .int .i64 a0_8, .int .i64 a0_9, .slice A0_10 l0_10.length c0_10] 24 (0, 0)) (by (iterate 4 ((with_reducible repeat (first | apply kn_ | apply kd_ | apply ka_)); refine blk_far ?_ NB401_404.out _)); (with_reducible repeat (first | apply kn_ | apply kd_ | apply ka_)); exact BK401.out) hb); replace BK402 := am_ (blk_below (g := gb402) (o := .cells #[.slice A1_0 l1_0.length c1_0, .slice A1_1 l1_1.length c1_1, .slice (some ad403) l1_2.length c1_2, .slice A1_3 l1_3.length c1_3, .slice A1_4 l1_4.length c1_4, .slice A1_5 l1_5.length c1_5] 44 (0, 0)) (by (iterate 4 ((with_reducible repeat (first | apply kn_ | apply kd_ | apply ka_)); refine blk_far ?_ NB402_404.out _)); (with_reducible repeat (first | apply kn_ | apply kd_ | apply ka_)); exact BK402.out) hb); replace BK404 := am_ (blk_below (g := gb404) (o := .cells #[.int .i64 ((rd_T74 l1_2 x16_1).f0), .int .i64 ((rd_T74 l1_2 x16_1).f1), .int .i64 ((rd_T74 l1_2 x16_1).f2), .string ((rd_T74 l1_2 x16_1).f3)] 74 (0, 0)) (by (with_reducible repeat (first | apply kn_ | apply kd_ | apply ka_)); refine blk_put (cs := #[.int .i64 ((rd_T74 l1_2 x16_1).f0), .int .i64 ((rd_T74 l1_2 x16_1).f1), .int .i64 ((rd_T74 l1_2 x16_1).f2), .string (⟨#[]⟩ : ByteArray)]) ?_ 3 _ rfl; (with_reducible repeat (first | apply kn_ | apply kd_ | apply ka_)); refine blk_put (cs := #[.int .i64 ((rd_T74 l1_2 x16_1).f0), .int .i64 ((rd_T74 l1_2 x16_1).f1), .int .i64 0, .string (⟨#[]⟩ : ByteArray)]) ?_ 2 _ rfl; (with_reducible repeat (first | apply kn_ | apply kd_ | apply ka_)); refine blk_put (cs := #[.int .i64 ((rd_T74 l1_2 x16_1).f0), .int .i64 0, .int .i64 0, .string (⟨#[]⟩ : ByteArray)]) ?_ 1 _ rfl; (with_reducible repeat (first | apply kn_ | apply kd_ | apply ka_)); refine blk_put (cs := #[.int .i64 0, .int .i64 0, .int .i64 0, .string (⟨#[]⟩ : ByteArray)]) ?_ 0 _ rfl; (with_reducible repeat (first | apply kn_ | apply kd_ | apply ka_)); exact BK404.out) hb); replace HB := am_ (below_step (by repeat (first | (with_reducible first | exact HB.out | apply ba_ | apply bn_ | apply bd_ | refine bs_ ?_ GE401.out | refine bs_ ?_ GE402.out | refine bs_ ?_ GE404.out) | exact HB.out)) hb); (try clear hb); have hcz31 := cells_11 BK401.out; have hfz31 := frozen_11 BK401.out; have hcz32 := cells_4 BK404.out; have hfz32 := frozen_4 BK404.out) | (go_at_call 43; (with_reducible refine (r33_node.calls a0_0 a0_1 a0_2 a0_3 a0_4 a0_5 a0_6 a0_7 a0_8 a0_9 _ _ l0_10 ((rd_T74 l1_2 x16_1).f1) _ _ (Kd.C_below HR0_10.out HB.out) HC0_10.out A12.out).mono ?_); rintro e w33 ⟨rfl, hb⟩; replace BK401 := bkb_ BK401 hb; replace BK402 := bkb_ BK402 hb; replace BK404 := bkb_ BK404 hb; replace HB := bst_ HB hb; (try clear hb)))
       go_ret
       exact ⟨by first | rfl | (simp [*] <;> rfl), by repeat (first | (with_reducible first | exact HB.out | apply ba_ | apply bn_ | apply bd_ | refine bs_ ?_ GE401.out | refine bs_ ?_ GE402.out | refine bs_ ?_ GE404.out) | exact HB.out)⟩
      ·go_wp2_with (first | ((with_reducible refine gate_dst (N := 6) rfl ?_); refine bxe_ 6 74 #[.int .i64 0, .int .i64 0, .int .i64 0, .string (⟨#[]⟩ : ByteArray)] ?_; intro gb404 hg w34 hbox hb; have BK404 := am_ (hbox); have GW404 := gwk_ HB hg; have GE404 := GW404; replace HB := bst_ HB hb; have NB401_404 := nbk_ BK401 hg; have NB404_401 := nbs_ NB401_404; replace BK401 := bkb_ BK401 hb; have NB402_404 := nbk_ BK402 hg; have NB404_402 := nbs_ NB402_404; replace BK402 := bkb_ BK402 hb; clear hb hbox hg; have hnb35 := NB404_401.out; have hnc35 := NB401_404.out; have hnb36 := NB404_402.out; have hnc36 := NB402_404.out; have hcz37 := cells_4 BK404.out; have hfz37 := frozen_4 BK404.out; have hnb38 := NB401_402.out; have hnc38 := NB402_401.out; have hcz39 := cells_11 BK401.out; have hfz39 := frozen_11 BK401.out) | ((with_reducible refine gate_callee (f := 43) rfl ?_); refine gom_ (some 23) Try.func43 (r33_node.calls a0_0 a0_1 a0_2 a0_3 a0_4 a0_5 a0_6 a0_7 a0_8 a0_9 _ _ l0_10 ((rd_T74 l1_2 x16_1).f0) _ _ ?side1 HC0_10.out A10.out) ?_; (case side1 => exact Kd.C_below HR0_10.out (by repeat (first | (with_reducible first | exact HB.out | apply ba_ | apply bn_ | apply bd_ | refine bs_ ?_ GE401.out | refine bs_ ?_ GE402.out | refine bs_ ?_ GE404.out) | exact HB.out))); rintro e w40 ⟨rfl, hb⟩; refine ⟨_, rfl, ?_⟩; replace BK401 := am_ (blk_below (g := gb401) (o := .cells #[.int .i64 a0_0, .int .i64 a0_1, .int .i64 a0_2, .int .i64 a0_3, .int .i64 a0_4, .int .i64 a0_5, .int .i64 a0_6, .int .i64 a0_7, .int .i64 a0_8, .int .i64 a0_9, .slice A0_10 l0_10.length c0_10] 24 (0, 0)) (by (iterate 4 ((with_reducible repeat (first | apply kn_ | apply kd_ | apply ka_)); refine blk_far ?_ NB401_404.out _)); (with_reducible repeat (first | apply kn_ | apply kd_ | apply ka_)); exact BK401.out) hb); replace BK402 := am_ (blk_below (g := gb402) (o := .cells #[.slice A1_0 l1_0.length c1_0, .slice A1_1 l1_1.length c1_1, .slice (some ad403) l1_2.length c1_2, .slice A1_3 l1_3.length c1_3, .slice A1_4 l1_4.length c1_4, .slice A1_5 l1_5.length c1_5] 44 (0, 0)) (by (iterate 4 ((with_reducible repeat (first | apply kn_ | apply kd_ | apply ka_)); refine blk_far ?_ NB402_404.out _)); (with_reducible repeat (first | apply kn_ | apply kd_ | apply ka_)); exact BK402.out) hb); replace BK404 := am_ (blk_below (g := gb404) (o := .cells #[.int .i64 ((rd_T74 l1_2 x16_1).f0), .int .i64 ((rd_T74 l1_2 x16_1).f1), .int .i64 ((rd_T74 l1_2 x16_1).f2), .string ((rd_T74 l1_2 x16_1).f3)] 74 (0, 0)) (by (with_reducible repeat (first | apply kn_ | apply kd_ | apply ka_)); refine blk_put (cs := #[.int .i64 ((rd_T74 l1_2 x16_1).f0), .int .i64 ((rd_T74 l1_2 x16_1).f1), .int .i64 ((rd_T74 l1_2 x16_1).f2), .string (⟨#[]⟩ : ByteArray)]) ?_ 3 _ rfl; (with_reducible repeat (first | apply kn_ | apply kd_ | apply ka_)); refine blk_put (cs := #[.int .i64 ((rd_T74 l1_2 x16_1).f0), .int .i64 ((rd_T74 l1_2 x16_1).f1), .int .i64 0, .string (⟨#[]⟩ : ByteArray)]) ?_ 2 _ rfl; (with_reducible repeat (first | apply kn_ | apply kd_ | apply ka_)); refine blk_put (cs := #[.int .i64 ((rd_T74 l1_2 x16_1).f0), .int .i64 0, .int .i64 0, .string (⟨#[]⟩ : ByteArray)]) ?_ 1 _ rfl; (with_reducible repeat (first | apply kn_ | apply kd_ | apply ka_)); refine blk_put (cs := #[.int .i64 0, .int .i64 0, .int .i64 0, .string (⟨#[]⟩ : ByteArray)]) ?_ 0 _ rfl; (with_reducible repeat (first | apply kn_ | apply kd_ | apply ka_)); exact BK404.out) hb); replace HB := am_ (below_step (by repeat (first | (with_reducible first | exact HB.out | apply ba_ | apply bn_ | apply bd_ | refine bs_ ?_ GE401.out | refine bs_ ?_ GE402.out | refine bs_ ?_ GE404.out) | exact HB.out)) hb); (try clear hb)))
       go_ret
       exact ⟨by first | rfl | (simp [*] <;> rfl), by repeat (first | (with_reducible first | exact HB.out | apply ba_ | apply bn_ | apply bd_ | refine bs_ ?_ GE401.out | refine bs_ ?_ GE402.out | refine bs_ ?_ GE404.out) | exact HB.out)⟩
     ·rw [if_neg c9] at H
      exact absurd H (by simp)
    ·rw [if_neg c8] at H
     exact absurd H (by simp)
   ·rw [if_neg c7] at H
    have c7b0 : decide (x16_1 < (l1_2.length : Int)) = false := decide_eq_false c7
    clear c7
    have H' := am_ H
    clear H
    have hnb41 := NB402_401.out
    have hnc41 := NB401_402.out
    have hcz42 := cells_6 BK402.out
    have hfz42 := frozen_6 BK402.out
    go_wp2
    go_loopg [36] k1 (fun kq v36 w' => ∃ (x36_2 : Int), v36 = .int .i64 x36_2 ∧ Aside0 (r33_nodes.l1 kq l1_4 (l1_4.length : Int) x36_2 a0_0 a0_1 a0_2 a0_3 a0_4 a0_5 a0_6 a0_7 a0_8 a0_9 l0_10 l1_0 l1_1 l1_2 l1_3 l1_4 l1_5 = some r) ∧ Aside0 (kq ≤ k1) ∧ Aside0 (w'.heap[gb401]? = some (.cells #[.int .i64 a0_0, .int .i64 a0_1, .int .i64 a0_2, .int .i64 a0_3, .int .i64 a0_4, .int .i64 a0_5, .int .i64 a0_6, .int .i64 a0_7, .int .i64 a0_8, .int .i64 a0_9, (.slice A0_10 l0_10.length c0_10)] 24 (0, 0))) ∧ Aside0 (w'.heap[gb402]? = some (.cells #[(.slice A1_0 l1_0.length c1_0), (.slice A1_1 l1_1.length c1_1), (.slice A1_2 l1_2.length c1_2), (.slice A1_3 l1_3.length c1_3), (.slice A1_4 l1_4.length c1_4), (.slice A1_5 l1_5.length c1_5)] 44 (0, 0))) ∧ Aside0 (Below w.heap.size w w'))
    case atStart => exact ⟨(0), (by first | rfl | (simp; done) | (simp [*]; done)), H', ⟨Nat.le_refl _⟩, ⟨by (with_reducible repeat (first | apply kn_ | apply kd_ | apply ka_)); exact BK401.out⟩, ⟨by (with_reducible repeat (first | apply kn_ | apply kd_ | apply ka_)); exact BK402.out⟩, ⟨by repeat (first | (with_reducible first | exact HB.out | apply ba_ | apply bn_ | apply bd_ | refine bs_ ?_ GE401.out | refine bs_ ?_ GE402.out) | exact HB.out)⟩⟩
    case round =>
     clear H'
     try clear c1
     try clear c2
     try clear p2
     try clear c3
     try clear c4
     try clear p4
     try clear q4
     try clear hx4
     try clear c5
     try clear p6
     try clear c7
     try clear c7b0
     try clear c8
     try clear c8b0
     try clear c9
     try clear c9b0
     try clear c11
     try clear c13
     try clear c15
     try clear c16
     try clear c18
     try clear c25
     try clear c26
     try clear c28
     try clear c35
     try clear c36
     try clear c38
     try clear p40
     try clear q40
     try clear hx40
     try clear c41
     try clear hcz17
     try clear hcz19
     try clear hcz21
     try clear hcz22
     try clear hcz27
     try clear hcz29
     try clear hcz31
     try clear hcz32
     try clear hcz37
     try clear hcz39
     try clear hcz42
     try clear hcz6
     try clear hfz17
     try clear hfz19
     try clear hfz21
     try clear hfz22
     try clear hfz27
     try clear hfz29
     try clear hfz31
     try clear hfz32
     try clear hfz37
     try clear hfz39
     try clear hfz42
     try clear hfz6
     try clear hx403_0
     try clear hx403_1
     try clear hx403_2
     try clear hx403_3
     try clear p2
     try clear p403
     try clear q403
     obtain ⟨x36_2, rfl, HA, HK2, BK401, BK402, HB⟩ := hrel
     cases gk with
     | zero => exact absurd HA.out (by simp [r33_nodes.l1])
     | succ k2 =>
      have H := HA.out
      clear HA
      simp only [r33_nodes.l1] at H
      by_cases c43 : x36_2 < (l1_4.length : Int)
      ·rw [if_pos c43] at H
       have c43b0 : decide (x36_2 < (l1_4.length : Int)) = true := decide_eq_true c43
       clear c43
       by_cases c44 : 0 ≤ x36_2
       ·rw [if_pos c44] at H
        have c44b0 : decide (0 ≤ x36_2) = true := decide_eq_true c44
        clear c44
        by_cases c45 : x36_2 < (l1_4.length : Int)
        ·rw [if_pos c45] at H
         have c45b0 : decide (x36_2 < (l1_4.length : Int)) = true := decide_eq_true c45
         clear c45
         obtain ⟨t409, A46, H⟩ := bes_ H
         try dsimp only at H
         by_cases c47 : t409 = true
         subst c47
         rw [if_pos rfl] at H
         obtain ⟨t410, A48, H⟩ := bes_ H
         try dsimp only at H
         by_cases c49 : t410 = true
         ·subst c49
          rw [if_pos rfl] at H
          have H' := am_ H
          clear H
          have p407 : 0 ≤ (x36_2 : Int) := of_decide_eq_true (by first | (with_reducible assumption) | assumption)
          have q407 : x36_2 < (l1_4.length : Int) := of_decide_eq_true (by first | (with_reducible assumption) | assumption)
          obtain ⟨ad407, e407, hx407_0, hx407_1, hx407_2, hx407_3⟩ := at_T74 HR1_4.out x36_2 p407 q407
          cases e407
          replace hx407_0 := (HB.out.cell (World.block_lt_of_cell? w _ hx407_0)).trans hx407_0
          replace hx407_1 := (HB.out.cell (World.block_lt_of_cell? w _ hx407_1)).trans hx407_1
          replace hx407_2 := (HB.out.cell (World.block_lt_of_cell? w _ hx407_2)).trans hx407_2
          replace hx407_3 := (HB.out.cell (World.block_lt_of_cell? w _ hx407_3)).trans hx407_3
          replace p407 := eq_true p407
          replace q407 := eq_true q407
          go_wp2_with (first | ((with_reducible refine gate_dst (N := 8) rfl ?_); refine bxe_ 8 74 #[.int .i64 0, .int .i64 0, .int .i64 0, .string (⟨#[]⟩ : ByteArray)] ?_; intro gb408 hg w50 hbox hb; have BK408 := am_ (hbox); have GW408 := gwk_ HB hg; have GE408 := GW408; replace HB := bst_ HB hb; have NB401_408 := nbk_ BK401 hg; have NB408_401 := nbs_ NB401_408; replace BK401 := bkb_ BK401 hb; have NB402_408 := nbk_ BK402 hg; have NB408_402 := nbs_ NB402_408; replace BK402 := bkb_ BK402 hb; clear hb hbox hg; have hnb51 := NB408_401.out; have hnc51 := NB401_408.out; have hnb52 := NB408_402.out; have hnc52 := NB402_408.out; have hcz53 := cells_4 BK408.out; have hfz53 := frozen_4 BK408.out; have hnb54 := NB401_402.out; have hnc54 := NB402_401.out; have hcz55 := cells_11 BK401.out; have hfz55 := frozen_11 BK401.out) | ((with_reducible refine gate_callee (f := 43) rfl ?_); refine gom_ (some 43) Try.func43 (r33_node.calls a0_0 a0_1 a0_2 a0_3 a0_4 a0_5 a0_6 a0_7 a0_8 a0_9 _ _ l0_10 ((rd_T74 l1_4 x36_2).f0) _ _ ?side1 HC0_10.out A46.out) ?_; (case side1 => exact Kd.C_below HR0_10.out (by repeat (first | (with_reducible first | exact HB.out | apply ba_ | apply bn_ | apply bd_ | refine bs_ ?_ GE401.out | refine bs_ ?_ GE402.out | refine bs_ ?_ GE408.out) | exact HB.out))); rintro e w56 ⟨rfl, hb⟩; refine ⟨_, rfl, ?_⟩; replace BK401 := am_ (blk_below (g := gb401) (o := .cells #[.int .i64 a0_0, .int .i64 a0_1, .int .i64 a0_2, .int .i64 a0_3, .int .i64 a0_4, .int .i64 a0_5, .int .i64 a0_6, .int .i64 a0_7, .int .i64 a0_8, .int .i64 a0_9, .slice A0_10 l0_10.length c0_10] 24 (0, 0)) (by (iterate 4 ((with_reducible repeat (first | apply kn_ | apply kd_ | apply ka_)); refine blk_far ?_ NB401_408.out _)); (with_reducible repeat (first | apply kn_ | apply kd_ | apply ka_)); exact BK401.out) hb); replace BK402 := am_ (blk_below (g := gb402) (o := .cells #[.slice A1_0 l1_0.length c1_0, .slice A1_1 l1_1.length c1_1, .slice A1_2 l1_2.length c1_2, .slice A1_3 l1_3.length c1_3, .slice (some ad407) l1_4.length c1_4, .slice A1_5 l1_5.length c1_5] 44 (0, 0)) (by (iterate 4 ((with_reducible repeat (first | apply kn_ | apply kd_ | apply ka_)); refine blk_far ?_ NB402_408.out _)); (with_reducible repeat (first | apply kn_ | apply kd_ | apply ka_)); exact BK402.out) hb); replace BK408 := am_ (blk_below (g := gb408) (o := .cells #[.int .i64 ((rd_T74 l1_4 x36_2).f0), .int .i64 ((rd_T74 l1_4 x36_2).f1), .int .i64 ((rd_T74 l1_4 x36_2).f2), .string ((rd_T74 l1_4 x36_2).f3)] 74 (0, 0)) (by (with_reducible repeat (first | apply kn_ | apply kd_ | apply ka_)); refine blk_put (cs := #[.int .i64 ((rd_T74 l1_4 x36_2).f0), .int .i64 ((rd_T74 l1_4 x36_2).f1), .int .i64 ((rd_T74 l1_4 x36_2).f2), .string (⟨#[]⟩ : ByteArray)]) ?_ 3 _ rfl; (with_reducible repeat (first | apply kn_ | apply kd_ | apply ka_)); refine blk_put (cs := #[.int .i64 ((rd_T74 l1_4 x36_2).f0), .int .i64 ((rd_T74 l1_4 x36_2).f1), .int .i64 0, .string (⟨#[]⟩ : ByteArray)]) ?_ 2 _ rfl; (with_reducible repeat (first | apply kn_ | apply kd_ | apply ka_)); refine blk_put (cs := #[.int .i64 ((rd_T74 l1_4 x36_2).f0), .int .i64 0, .int .i64 0, .string (⟨#[]⟩ : ByteArray)]) ?_ 1 _ rfl; (with_reducible repeat (first | apply kn_ | apply kd_ | apply ka_)); refine blk_put (cs := #[.int .i64 0, .int .i64 0, .int .i64 0, .string (⟨#[]⟩ : ByteArray)]) ?_ 0 _ rfl; (with_reducible repeat (first | apply kn_ | apply kd_ | apply ka_)); exact BK408.out) hb); replace HB := am_ (below_step (by repeat (first | (with_reducible first | exact HB.out | apply ba_ | apply bn_ | apply bd_ | refine bs_ ?_ GE401.out | refine bs_ ?_ GE402.out | refine bs_ ?_ GE408.out) | exact HB.out)) hb); (try clear hb); have hcz57 := cells_11 BK401.out; have hfz57 := frozen_11 BK401.out; have hcz58 := cells_4 BK408.out; have hfz58 := frozen_4 BK408.out) | (go_at_call 43; (with_reducible refine (r33_node.calls a0_0 a0_1 a0_2 a0_3 a0_4 a0_5 a0_6 a0_7 a0_8 a0_9 _ _ l0_10 ((rd_T74 l1_4 x36_2).f1) _ _ (Kd.C_below HR0_10.out HB.out) HC0_10.out A48.out).mono ?_); rintro e w59 ⟨rfl, hb⟩; replace BK401 := bkb_ BK401 hb; replace BK402 := bkb_ BK402 hb; replace BK408 := bkb_ BK408 hb; replace HB := bst_ HB hb; (try clear hb)))
          go_roundg k2
          case measure => have := HK1.out; have := HK2.out; omega
          case rel => exact ⟨(wrap64 (x36_2 + 1)), (by first | rfl | (simp; done) | (simp [*]; done)), H', ⟨by have := HK1.out; have := HK2.out; omega⟩, ⟨by (with_reducible repeat (first | apply kn_ | apply kd_ | apply ka_)); exact BK401.out⟩, ⟨by (with_reducible repeat (first | apply kn_ | apply kd_ | apply ka_)); exact BK402.out⟩, ⟨by repeat (first | (with_reducible first | exact HB.out | apply ba_ | apply bn_ | apply bd_ | refine bs_ ?_ GE401.out | refine bs_ ?_ GE402.out | refine bs_ ?_ GE408.out) | exact HB.out)⟩⟩
         replace c49 := Bool.eq_false_iff.mpr c49
         subst c49
         rw [if_neg (show ¬ (false = true) by decide)] at H
         obtain rfl := Option.some.inj H
         rotate_left
         replace c47 := Bool.eq_false_iff.mpr c47
         subst c47
         rw [if_neg (show ¬ (false = true) by decide)] at H
         obtain rfl := Option.some.inj H
         rotate_left
         all_goals
          have p407 : 0 ≤ (x36_2 : Int) := of_decide_eq_true (by first | (with_reducible assumption) | assumption)
          have q407 : x36_2 < (l1_4.length : Int) := of_decide_eq_true (by first | (with_reducible assumption) | assumption)
          obtain ⟨ad407, e407, hx407_0, hx407_1, hx407_2, hx407_3⟩ := at_T74 HR1_4.out x36_2 p407 q407
          cases e407
          replace hx407_0 := (HB.out.cell (World.block_lt_of_cell? w _ hx407_0)).trans hx407_0
          replace hx407_1 := (HB.out.cell (World.block_lt_of_cell? w _ hx407_1)).trans hx407_1
          replace hx407_2 := (HB.out.cell (World.block_lt_of_cell? w _ hx407_2)).trans hx407_2
          replace hx407_3 := (HB.out.cell (World.block_lt_of_cell? w _ hx407_3)).trans hx407_3
          replace p407 := eq_true p407
          replace q407 := eq_true q407
         ·go_wp2_with (first | ((with_reducible refine gate_dst (N := 8) rfl ?_); refine bxe_ 8 74 #[.int .i64 0, .int .i64 0, .int .i64 0, .string (⟨#[]⟩ : ByteArray)] ?_; intro gb408 hg w60 hbox hb; have BK408 := am_ (hbox); have GW408 := gwk_ HB hg; have GE408 := GW408; replace HB := bst_ HB hb; have NB401_408 := nbk_ BK401 hg; have NB408_401 := nbs_ NB401_408; replace BK401 := bkb_ BK401 hb; have NB402_408 := nbk_ BK402 hg; have NB408_402 := nbs_ NB402_408; replace BK402 := bkb_ BK402 hb; clear hb hbox hg; have hnb61 := NB408_401.out; have hnc61 := NB401_408.out; have hnb62 := NB408_402.out; have hnc62 := NB402_408.out; have hcz63 := cells_4 BK408.out; have hfz63 := frozen_4 BK408.out; have hnb64 := NB401_402.out; have hnc64 := NB402_401.out; have hcz65 := cells_11 BK401.out; have hfz65 := frozen_11 BK401.out) | ((with_reducible refine gate_callee (f := 43) rfl ?_); refine gom_ (some 43) Try.func43 (r33_node.calls a0_0 a0_1 a0_2 a0_3 a0_4 a0_5 a0_6 a0_7 a0_8 a0_9 _ _ l0_10 ((rd_T74 l1_4 x36_2).f0) _ _ ?side1 HC0_10.out A46.out) ?_; (case side1 => exact Kd.C_below HR0_10.out (by repeat (first | (with_reducible first | exact HB.out | apply ba_ | apply bn_ | apply bd_ | refine bs_ ?_ GE401.out | refine bs_ ?_ GE402.out | refine bs_ ?_ GE408.out) | exact HB.out))); rintro e w66 ⟨rfl, hb⟩; refine ⟨_, rfl, ?_⟩; replace BK401 := am_ (blk_below (g := gb401) (o := .cells #[.int .i64 a0_0, .int .i64 a0_1, .int .i64 a0_2, .int .i64 a0_3, .int .i64 a0_4, .int .i64 a0_5, .int .i64 a0_6, .int .i64 a0_7, .int .i64 a0_8, .int .i64 a0_9, .slice A0_10 l0_10.length c0_10] 24 (0, 0)) (by (iterate 4 ((with_reducible repeat (first | apply kn_ | apply kd_ | apply ka_)); refine blk_far ?_ NB401_408.out _)); (with_reducible repeat (first | apply kn_ | apply kd_ | apply ka_)); exact BK401.out) hb); replace BK402 := am_ (blk_below (g := gb402) (o := .cells #[.slice A1_0 l1_0.length c1_0, .slice A1_1 l1_1.length c1_1, .slice A1_2 l1_2.length c1_2, .slice A1_3 l1_3.length c1_3, .slice (some ad407) l1_4.length c1_4, .slice A1_5 l1_5.length c1_5] 44 (0, 0)) (by (iterate 4 ((with_reducible repeat (first | apply kn_ | apply kd_ | apply ka_)); refine blk_far ?_ NB402_408.out _)); (with_reducible repeat (first | apply kn_ | apply kd_ | apply ka_)); exact BK402.out) hb); replace BK408 := am_ (blk_below (g := gb408) (o := .cells #[.int .i64 ((rd_T74 l1_4 x36_2).f0), .int .i64 ((rd_T74 l1_4 x36_2).f1), .int .i64 ((rd_T74 l1_4 x36_2).f2), .string ((rd_T74 l1_4 x36_2).f3)] 74 (0, 0)) (by (with_reducible repeat (first | apply kn_ | apply kd_ | apply ka_)); refine blk_put (cs := #[.int .i64 ((rd_T74 l1_4 x36_2).f0), .int .i64 ((rd_T74 l1_4 x36_2).f1), .int .i64 ((rd_T74 l1_4 x36_2).f2), .string (⟨#[]⟩ : ByteArray)]) ?_ 3 _ rfl; (with_reducible repeat (first | apply kn_ | apply kd_ | apply ka_)); refine blk_put (cs := #[.int .i64 ((rd_T74 l1_4 x36_2).f0), .int .i64 ((rd_T74 l1_4 x36_2).f1), .int .i64 0, .string (⟨#[]⟩ : ByteArray)]) ?_ 2 _ rfl; (with_reducible repeat (first | apply kn_ | apply kd_ | apply ka_)); refine blk_put (cs := #[.int .i64 ((rd_T74 l1_4 x36_2).f0), .int .i64 0, .int .i64 0, .string (⟨#[]⟩ : ByteArray)]) ?_ 1 _ rfl; (with_reducible repeat (first | apply kn_ | apply kd_ | apply ka_)); refine blk_put (cs := #[.int .i64 0, .int .i64 0, .int .i64 0, .string (⟨#[]⟩ : ByteArray)]) ?_ 0 _ rfl; (with_reducible repeat (first | apply kn_ | apply kd_ | apply ka_)); exact BK408.out) hb); replace HB := am_ (below_step (by repeat (first | (with_reducible first | exact HB.out | apply ba_ | apply bn_ | apply bd_ | refine bs_ ?_ GE401.out | refine bs_ ?_ GE402.out | refine bs_ ?_ GE408.out) | exact HB.out)) hb); (try clear hb); have hcz67 := cells_11 BK401.out; have hfz67 := frozen_11 BK401.out; have hcz68 := cells_4 BK408.out; have hfz68 := frozen_4 BK408.out) | (go_at_call 43; (with_reducible refine (r33_node.calls a0_0 a0_1 a0_2 a0_3 a0_4 a0_5 a0_6 a0_7 a0_8 a0_9 _ _ l0_10 ((rd_T74 l1_4 x36_2).f1) _ _ (Kd.C_below HR0_10.out HB.out) HC0_10.out A48.out).mono ?_); rintro e w69 ⟨rfl, hb⟩; replace BK401 := bkb_ BK401 hb; replace BK402 := bkb_ BK402 hb; replace BK408 := bkb_ BK408 hb; replace HB := bst_ HB hb; (try clear hb)))
          go_ret
          exact ⟨by first | rfl | (simp [*] <;> rfl), by repeat (first | (with_reducible first | exact HB.out | apply ba_ | apply bn_ | apply bd_ | refine bs_ ?_ GE401.out | refine bs_ ?_ GE402.out | refine bs_ ?_ GE408.out) | exact HB.out)⟩
         ·go_wp2_with (first | ((with_reducible refine gate_dst (N := 8) rfl ?_); refine bxe_ 8 74 #[.int .i64 0, .int .i64 0, .int .i64 0, .string (⟨#[]⟩ : ByteArray)] ?_; intro gb408 hg w70 hbox hb; have BK408 := am_ (hbox); have GW408 := gwk_ HB hg; have GE408 := GW408; replace HB := bst_ HB hb; have NB401_408 := nbk_ BK401 hg; have NB408_401 := nbs_ NB401_408; replace BK401 := bkb_ BK401 hb; have NB402_408 := nbk_ BK402 hg; have NB408_402 := nbs_ NB402_408; replace BK402 := bkb_ BK402 hb; clear hb hbox hg; have hnb71 := NB408_401.out; have hnc71 := NB401_408.out; have hnb72 := NB408_402.out; have hnc72 := NB402_408.out; have hcz73 := cells_4 BK408.out; have hfz73 := frozen_4 BK408.out; have hnb74 := NB401_402.out; have hnc74 := NB402_401.out; have hcz75 := cells_11 BK401.out; have hfz75 := frozen_11 BK401.out) | ((with_reducible refine gate_callee (f := 43) rfl ?_); refine gom_ (some 43) Try.func43 (r33_node.calls a0_0 a0_1 a0_2 a0_3 a0_4 a0_5 a0_6 a0_7 a0_8 a0_9 _ _ l0_10 ((rd_T74 l1_4 x36_2).f0) _ _ ?side1 HC0_10.out A46.out) ?_; (case side1 => exact Kd.C_below HR0_10.out (by repeat (first | (with_reducible first | exact HB.out | apply ba_ | apply bn_ | apply bd_ | refine bs_ ?_ GE401.out | refine bs_ ?_ GE402.out | refine bs_ ?_ GE408.out) | exact HB.out))); rintro e w76 ⟨rfl, hb⟩; refine ⟨_, rfl, ?_⟩; replace BK401 := am_ (blk_below (g := gb401) (o := .cells #[.int .i64 a0_0, .int .i64 a0_1, .int .i64 a0_2, .int .i64 a0_3, .int .i64 a0_4, .int .i64 a0_5, .int .i64 a0_6, .int .i64 a0_7, .int .i64 a0_8, .int .i64 a0_9, .slice A0_10 l0_10.length c0_10] 24 (0, 0)) (by (iterate 4 ((with_reducible repeat (first | apply kn_ | apply kd_ | apply ka_)); refine blk_far ?_ NB401_408.out _)); (with_reducible repeat (first | apply kn_ | apply kd_ | apply ka_)); exact BK401.out) hb); replace BK402 := am_ (blk_below (g := gb402) (o := .cells #[.slice A1_0 l1_0.length c1_0, .slice A1_1 l1_1.length c1_1, .slice A1_2 l1_2.length c1_2, .slice A1_3 l1_3.length c1_3, .slice (some ad407) l1_4.length c1_4, .slice A1_5 l1_5.length c1_5] 44 (0, 0)) (by (iterate 4 ((with_reducible repeat (first | apply kn_ | apply kd_ | apply ka_)); refine blk_far ?_ NB402_408.out _)); (with_reducible repeat (first | apply kn_ | apply kd_ | apply ka_)); exact BK402.out) hb); replace BK408 := am_ (blk_below (g := gb408) (o := .cells #[.int .i64 ((rd_T74 l1_4 x36_2).f0), .int .i64 ((rd_T74 l1_4 x36_2).f1), .int .i64 ((rd_T74 l1_4 x36_2).f2), .string ((rd_T74 l1_4 x36_2).f3)] 74 (0, 0)) (by (with_reducible repeat (first | apply kn_ | apply kd_ | apply ka_)); refine blk_put (cs := #[.int .i64 ((rd_T74 l1_4 x36_2).f0), .int .i64 ((rd_T74 l1_4 x36_2).f1), .int .i64 ((rd_T74 l1_4 x36_2).f2), .string (⟨#[]⟩ : ByteArray)]) ?_ 3 _ rfl; (with_reducible repeat (first | apply kn_ | apply kd_ | apply ka_)); refine blk_put (cs := #[.int .i64 ((rd_T74 l1_4 x36_2).f0), .int .i64 ((rd_T74 l1_4 x36_2).f1), .int .i64 0, .string (⟨#[]⟩ : ByteArray)]) ?_ 2 _ rfl; (with_reducible repeat (first | apply kn_ | apply kd_ | apply ka_)); refine blk_put (cs := #[.int .i64 ((rd_T74 l1_4 x36_2).f0), .int .i64 0, .int .i64 0, .string (⟨#[]⟩ : ByteArray)]) ?_ 1 _ rfl; (with_reducible repeat (first | apply kn_ | apply kd_ | apply ka_)); refine blk_put (cs := #[.int .i64 0, .int .i64 0, .int .i64 0, .string (⟨#[]⟩ : ByteArray)]) ?_ 0 _ rfl; (with_reducible repeat (first | apply kn_ | apply kd_ | apply ka_)); exact BK408.out) hb); replace HB := am_ (below_step (by repeat (first | (with_reducible first | exact HB.out | apply ba_ | apply bn_ | apply bd_ | refine bs_ ?_ GE401.out | refine bs_ ?_ GE402.out | refine bs_ ?_ GE408.out) | exact HB.out)) hb); (try clear hb)))
          go_ret
          exact ⟨by first | rfl | (simp [*] <;> rfl), by repeat (first | (with_reducible first | exact HB.out | apply ba_ | apply bn_ | apply bd_ | refine bs_ ?_ GE401.out | refine bs_ ?_ GE402.out | refine bs_ ?_ GE408.out) | exact HB.out)⟩
        ·rw [if_neg c45] at H
         exact absurd H (by simp)
       ·rw [if_neg c44] at H
        exact absurd H (by simp)
      ·rw [if_neg c43] at H
       have c43b0 : decide (x36_2 < (l1_4.length : Int)) = false := decide_eq_false c43
       clear c43
       have H' := am_ H
       clear H
       have hnb77 := NB402_401.out
       have hnc77 := NB401_402.out
       have hcz78 := cells_6 BK402.out
       have hfz78 := frozen_6 BK402.out
       go_wp2
       go_loopg [56] k2 (fun kq v56 w' => ∃ (x56_3 : Int), v56 = .int .i64 x56_3 ∧ Aside0 (r33_nodes.l2 kq l1_3 (l1_3.length : Int) x56_3 a0_0 a0_1 a0_2 a0_3 a0_4 a0_5 a0_6 a0_7 a0_8 a0_9 l0_10 l1_0 l1_1 l1_2 l1_3 l1_4 l1_5 = some r) ∧ Aside0 (kq ≤ k2) ∧ Aside0 (w'.heap[gb401]? = some (.cells #[.int .i64 a0_0, .int .i64 a0_1, .int .i64 a0_2, .int .i64 a0_3, .int .i64 a0_4, .int .i64 a0_5, .int .i64 a0_6, .int .i64 a0_7, .int .i64 a0_8, .int .i64 a0_9, (.slice A0_10 l0_10.length c0_10)] 24 (0, 0))) ∧ Aside0 (w'.heap[gb402]? = some (.cells #[(.slice A1_0 l1_0.length c1_0), (.slice A1_1 l1_1.length c1_1), (.slice A1_2 l1_2.length c1_2), (.slice A1_3 l1_3.length c1_3), (.slice A1_4 l1_4.length c1_4), (.slice A1_5 l1_5.length c1_5)] 44 (0, 0))) ∧ Aside0 (Below w.heap.size w w'))
       case atStart => exact ⟨(0), (by first | rfl | (simp; done) | (simp [*]; done)), H', ⟨Nat.le_refl _⟩, ⟨by (with_reducible repeat (first | apply kn_ | apply kd_ | apply ka_)); exact BK401.out⟩, ⟨by (with_reducible repeat (first | apply kn_ | apply kd_ | apply ka_)); exact BK402.out⟩, ⟨by repeat (first | (with_reducible first | exact HB.out | apply ba_ | apply bn_ | apply bd_ | refine bs_ ?_ GE401.out | refine bs_ ?_ GE402.out) | exact HB.out)⟩⟩
       case round =>
        clear H'
        try clear c1
        try clear c2
        try clear p2
        try clear c3
        try clear c4
        try clear p4
        try clear q4
        try clear hx4
        try clear c5
        try clear c6
        try clear p6
        try clear c7
        try clear c7b0
        try clear c8
        try clear c8b0
        try clear c9
        try clear c9b0
        try clear c11
        try clear c13
        try clear c15
        try clear c16
        try clear c18
        try clear c25
        try clear c26
        try clear c28
        try clear c35
        try clear c36
        try clear c38
        try clear p40
        try clear q40
        try clear hx40
        try clear c41
        try clear c43
        try clear c43b0
        try clear c44
        try clear c44b0
        try clear c45
        try clear c45b0
        try clear c47
        try clear c49
        try clear c51
        try clear c52
        try clear c54
        try clear c61
        try clear c62
        try clear c64
        try clear p64
        try clear c71
        try clear c72
        try clear c74
        try clear c77
        try clear hcz17
        try clear hcz19
        try clear hcz21
        try clear hcz22
        try clear hcz27
        try clear hcz29
        try clear hcz31
        try clear hcz32
        try clear hcz37
        try clear hcz39
        try clear hcz42
        try clear hcz53
        try clear hcz55
        try clear hcz57
        try clear hcz58
        try clear hcz63
        try clear hcz65
        try clear hcz67
        try clear hcz68
        try clear hcz6
        try clear hcz73
        try clear hcz75
        try clear hcz78
        try clear hfz17
        try clear hfz19
        try clear hfz21
        try clear hfz22
        try clear hfz27
        try clear hfz29
        try clear hfz31
        try clear hfz32
        try clear hfz37
        try clear hfz39
        try clear hfz42
        try clear hfz53
        try clear hfz55
        try clear hfz57
        try clear hfz58
        try clear hfz63
        try clear hfz65
        try clear hfz67
        try clear hfz68
        try clear hfz6
        try clear hfz73
        try clear hfz75
        try clear hfz78
        try clear hx403_0
        try clear hx403_1
        try clear hx403_2
        try clear hx403_3
        try clear hx407_0
        try clear hx407_1
        try clear hx407_2
        try clear hx407_3
        try clear p2
        try clear p4
        try clear p40
        try clear p403
        try clear p407
        try clear p6
        try clear q4
        try clear q40
        try clear q403
        try clear q407
        obtain ⟨x56_3, rfl, HA, HK3, BK401, BK402, HB⟩ := hrel
        cases gk with
        | zero => exact absurd HA.out (by simp [r33_nodes.l2])
        | succ k3 =>
         have H := HA.out
         clear HA
         simp only [r33_nodes.l2] at H
         by_cases c79 : x56_3 < (l1_3.length : Int)
         ·rw [if_pos c79] at H
          have c79b0 : decide (x56_3 < (l1_3.length : Int)) = true := decide_eq_true c79
          clear c79
          by_cases c80 : 0 ≤ x56_3
          ·rw [if_pos c80] at H
           have c80b0 : decide (0 ≤ x56_3) = true := decide_eq_true c80
           clear c80
           by_cases c81 : x56_3 < (l1_3.length : Int)
           ·rw [if_pos c81] at H
            have c81b0 : decide (x56_3 < (l1_3.length : Int)) = true := decide_eq_true c81
            clear c81
            obtain ⟨t413, A82, H⟩ := bes_ H
            try dsimp only at H
            by_cases c83 : t413 = true
            ·subst c83
             rw [if_pos rfl] at H
             have H' := am_ H
             clear H
             have p411 : 0 ≤ (x56_3 : Int) := of_decide_eq_true (by first | (with_reducible assumption) | assumption)
             have q411 : x56_3 < (l1_3.length : Int) := of_decide_eq_true (by first | (with_reducible assumption) | assumption)
             obtain ⟨ad411, e411, hx411_0, hx411_1⟩ := at_T48 HR1_3.out x56_3 p411 q411
             cases e411
             replace hx411_0 := (HB.out.cell (World.block_lt_of_cell? w _ hx411_0)).trans hx411_0
             replace hx411_1 := (HB.out.cell (World.block_lt_of_cell? w _ hx411_1)).trans hx411_1
             replace p411 := eq_true p411
             replace q411 := eq_true q411
             go_wp2_with (first | ((with_reducible refine gate_dst (N := 10) rfl ?_); refine bxe_ 10 48 #[.int .i64 0, .string (⟨#[]⟩ : ByteArray)] ?_; intro gb412 hg w84 hbox hb; have BK412 := am_ (hbox); have GW412 := gwk_ HB hg; have GE412 := GW412; replace HB := bst_ HB hb; have NB401_412 := nbk_ BK401 hg; have NB412_401 := nbs_ NB401_412; replace BK401 := bkb_ BK401 hb; have NB402_412 := nbk_ BK402 hg; have NB412_402 := nbs_ NB402_412; replace BK402 := bkb_ BK402 hb; clear hb hbox hg; have hnb85 := NB412_401.out; have hnc85 := NB401_412.out; have hnb86 := NB412_402.out; have hnc86 := NB402_412.out; obtain ⟨hcz87_0, hcz87_1⟩ := cells_2 BK412.out; obtain ⟨hfz87_0, hfz87_1⟩ := frozen_2 BK412.out; have hnb88 := NB401_402.out; have hnc88 := NB402_401.out; have hcz89 := cells_11 BK401.out; have hfz89 := frozen_11 BK401.out) | ((with_reducible refine gate_callee (f := 43) rfl ?_); refine gom_ (some 63) Try.func43 (r33_node.calls a0_0 a0_1 a0_2 a0_3 a0_4 a0_5 a0_6 a0_7 a0_8 a0_9 _ _ l0_10 ((rd_T48 l1_3 x56_3).f0) _ _ ?side1 HC0_10.out A82.out) ?_; (case side1 => exact Kd.C_below HR0_10.out (by repeat (first | (with_reducible first | exact HB.out | apply ba_ | apply bn_ | apply bd_ | refine bs_ ?_ GE401.out | refine bs_ ?_ GE402.out | refine bs_ ?_ GE412.out) | exact HB.out))); rintro e w90 ⟨rfl, hb⟩; refine ⟨_, rfl, ?_⟩; replace BK401 := am_ (blk_below (g := gb401) (o := .cells #[.int .i64 a0_0, .int .i64 a0_1, .int .i64 a0_2, .int .i64 a0_3, .int .i64 a0_4, .int .i64 a0_5, .int .i64 a0_6, .int .i64 a0_7, .int .i64 a0_8, .int .i64 a0_9, .slice A0_10 l0_10.length c0_10] 24 (0, 0)) (by (iterate 2 ((with_reducible repeat (first | apply kn_ | apply kd_ | apply ka_)); refine blk_far ?_ NB401_412.out _)); (with_reducible repeat (first | apply kn_ | apply kd_ | apply ka_)); exact BK401.out) hb); replace BK402 := am_ (blk_below (g := gb402) (o := .cells #[.slice A1_0 l1_0.length c1_0, .slice A1_1 l1_1.length c1_1, .slice A1_2 l1_2.length c1_2, .slice (some ad411) l1_3.length c1_3, .slice A1_4 l1_4.length c1_4, .slice A1_5 l1_5.length c1_5] 44 (0, 0)) (by (iterate 2 ((with_reducible repeat (first | apply kn_ | apply kd_ | apply ka_)); refine blk_far ?_ NB402_412.out _)); (with_reducible repeat (first | apply kn_ | apply kd_ | apply ka_)); exact BK402.out) hb); replace BK412 := am_ (blk_below (g := gb412) (o := .cells #[.int .i64 ((rd_T48 l1_3 x56_3).f0), .string ((rd_T48 l1_3 x56_3).f1)] 48 (0, 0)) (by (with_reducible repeat (first | apply kn_ | apply kd_ | apply ka_)); refine blk_put (cs := #[.int .i64 ((rd_T48 l1_3 x56_3).f0), .string (⟨#[]⟩ : ByteArray)]) ?_ 1 _ rfl; (with_reducible repeat (first | apply kn_ | apply kd_ | apply ka_)); refine blk_put (cs := #[.int .i64 0, .string (⟨#[]⟩ : ByteArray)]) ?_ 0 _ rfl; (with_reducible repeat (first | apply kn_ | apply kd_ | apply ka_)); exact BK412.out) hb); replace HB := am_ (below_step (by repeat (first | (with_reducible first | exact HB.out | apply ba_ | apply bn_ | apply bd_ | refine bs_ ?_ GE401.out | refine bs_ ?_ GE402.out | refine bs_ ?_ GE412.out) | exact HB.out)) hb); (try clear hb)))
             go_roundg k3
             case measure => have := HK1.out; have := HK2.out; have := HK3.out; omega
             case rel => exact ⟨(wrap64 (x56_3 + 1)), (by first | rfl | (simp; done) | (simp [*]; done)), H', ⟨by have := HK1.out; have := HK2.out; have := HK3.out; omega⟩, ⟨by (with_reducible repeat (first | apply kn_ | apply kd_ | apply ka_)); exact BK401.out⟩, ⟨by (with_reducible repeat (first | apply kn_ | apply kd_ | apply ka_)); exact BK402.out⟩, ⟨by repeat (first | (with_reducible first | exact HB.out | apply ba_ | apply bn_ | apply bd_ | refine bs_ ?_ GE401.out | refine bs_ ?_ GE402.out | refine bs_ ?_ GE412.out) | exact HB.out)⟩⟩
            ·replace c83 := Bool.eq_false_iff.mpr c83
             subst c83
             rw [if_neg (show ¬ (false = true) by decide)] at H
             obtain rfl := Option.some.inj H
             have p411 : 0 ≤ (x56_3 : Int) := of_decide_eq_true (by first | (with_reducible assumption) | assumption)
             have q411 : x56_3 < (l1_3.length : Int) := of_decide_eq_true (by first | (with_reducible assumption) | assumption)
             obtain ⟨ad411, e411, hx411_0, hx411_1⟩ := at_T48 HR1_3.out x56_3 p411 q411
             cases e411
             replace hx411_0 := (HB.out.cell (World.block_lt_of_cell? w _ hx411_0)).trans hx411_0
             replace hx411_1 := (HB.out.cell (World.block_lt_of_cell? w _ hx411_1)).trans hx411_1
             replace p411 := eq_true p411
             replace q411 := eq_true q411
             go_wp2_with (first | ((with_reducible refine gate_dst (N := 10) rfl ?_); refine bxe_ 10 48 #[.int .i64 0, .string (⟨#[]⟩ : ByteArray)] ?_; intro gb412 hg w91 hbox hb; have BK412 := am_ (hbox); have GW412 := gwk_ HB hg; have GE412 := GW412; replace HB := bst_ HB hb; have NB401_412 := nbk_ BK401 hg; have NB412_401 := nbs_ NB401_412; replace BK401 := bkb_ BK401 hb; have NB402_412 := nbk_ BK402 hg; have NB412_402 := nbs_ NB402_412; replace BK402 := bkb_ BK402 hb; clear hb hbox hg; have hnb92 := NB412_401.out; have hnc92 := NB401_412.out; have hnb93 := NB412_402.out; have hnc93 := NB402_412.out; obtain ⟨hcz94_0, hcz94_1⟩ := cells_2 BK412.out; obtain ⟨hfz94_0, hfz94_1⟩ := frozen_2 BK412.out; have hnb95 := NB401_402.out; have hnc95 := NB402_401.out; have hcz96 := cells_11 BK401.out; have hfz96 := frozen_11 BK401.out) | ((with_reducible refine gate_callee (f := 43) rfl ?_); refine gom_ (some 63) Try.func43 (r33_node.calls a0_0 a0_1 a0_2 a0_3 a0_4 a0_5 a0_6 a0_7 a0_8 a0_9 _ _ l0_10 ((rd_T48 l1_3 x56_3).f0) _ _ ?side1 HC0_10.out A82.out) ?_; (case side1 => exact Kd.C_below HR0_10.out (by repeat (first | (with_reducible first | exact HB.out | apply ba_ | apply bn_ | apply bd_ | refine bs_ ?_ GE401.out | refine bs_ ?_ GE402.out | refine bs_ ?_ GE412.out) | exact HB.out))); rintro e w97 ⟨rfl, hb⟩; refine ⟨_, rfl, ?_⟩; replace BK401 := am_ (blk_below (g := gb401) (o := .cells #[.int .i64 a0_0, .int .i64 a0_1, .int .i64 a0_2, .int .i64 a0_3, .int .i64 a0_4, .int .i64 a0_5, .int .i64 a0_6, .int .i64 a0_7, .int .i64 a0_8, .int .i64 a0_9, .slice A0_10 l0_10.length c0_10] 24 (0, 0)) (by (iterate 2 ((with_reducible repeat (first | apply kn_ | apply kd_ | apply ka_)); refine blk_far ?_ NB401_412.out _)); (with_reducible repeat (first | apply kn_ | apply kd_ | apply ka_)); exact BK401.out) hb); replace BK402 := am_ (blk_below (g := gb402) (o := .cells #[.slice A1_0 l1_0.length c1_0, .slice A1_1 l1_1.length c1_1, .slice A1_2 l1_2.length c1_2, .slice (some ad411) l1_3.length c1_3, .slice A1_4 l1_4.length c1_4, .slice A1_5 l1_5.length c1_5] 44 (0, 0)) (by (iterate 2 ((with_reducible repeat (first | apply kn_ | apply kd_ | apply ka_)); refine blk_far ?_ NB402_412.out _)); (with_reducible repeat (first | apply kn_ | apply kd_ | apply ka_)); exact BK402.out) hb); replace BK412 := am_ (blk_below (g := gb412) (o := .cells #[.int .i64 ((rd_T48 l1_3 x56_3).f0), .string ((rd_T48 l1_3 x56_3).f1)] 48 (0, 0)) (by (with_reducible repeat (first | apply kn_ | apply kd_ | apply ka_)); refine blk_put (cs := #[.int .i64 ((rd_T48 l1_3 x56_3).f0), .string (⟨#[]⟩ : ByteArray)]) ?_ 1 _ rfl; (with_reducible repeat (first | apply kn_ | apply kd_ | apply ka_)); refine blk_put (cs := #[.int .i64 0, .string (⟨#[]⟩ : ByteArray)]) ?_ 0 _ rfl; (with_reducible repeat (first | apply kn_ | apply kd_ | apply ka_)); exact BK412.out) hb); replace HB := am_ (below_step (by repeat (first | (with_reducible first | exact HB.out | apply ba_ | apply bn_ | apply bd_ | refine bs_ ?_ GE401.out | refine bs_ ?_ GE402.out | refine bs_ ?_ GE412.out) | exact HB.out)) hb); (try clear hb)))
             go_ret
             exact ⟨by first | rfl | (simp [*] <;> rfl), by repeat (first | (with_reducible first | exact HB.out | apply ba_ | apply bn_ | apply bd_ | refine bs_ ?_ GE401.out | refine bs_ ?_ GE402.out | refine bs_ ?_ GE412.out) | exact HB.out)⟩
           ·rw [if_neg c81] at H
            exact absurd H (by simp)
          ·rw [if_neg c80] at H
           exact absurd H (by simp)
         ·rw [if_neg c79] at H
          have c79b0 : decide (x56_3 < (l1_3.length : Int)) = false := decide_eq_false c79
          clear c79
          have H' := am_ H
          clear H
          have hnb98 := NB402_401.out
          have hnc98 := NB401_402.out
          have hcz99 := cells_6 BK402.out
          have hfz99 := frozen_6 BK402.out
          go_wp2
          go_loopg [69] k3 (fun kq v69 w' => ∃ (x69_4 : Int), v69 = .int .i64 x69_4 ∧ Aside0 (r33_nodes.l3 kq l1_5 (l1_5.length : Int) x69_4 a0_0 a0_1 a0_2 a0_3 a0_4 a0_5 a0_6 a0_7 a0_8 a0_9 l0_10 = some r) ∧ Aside0 (kq ≤ k3) ∧ Aside0 (w'.heap[gb401]? = some (.cells #[.int .i64 a0_0, .int .i64 a0_1, .int .i64 a0_2, .int .i64 a0_3, .int .i64 a0_4, .int .i64 a0_5, .int .i64 a0_6, .int .i64 a0_7, .int .i64 a0_8, .int .i64 a0_9, (.slice A0_10 l0_10.length c0_10)] 24 (0, 0))) ∧ Aside0 (w'.heap[gb402]? = some (.cells #[(.slice A1_0 l1_0.length c1_0), (.slice A1_1 l1_1.length c1_1), (.slice A1_2 l1_2.length c1_2), (.slice A1_3 l1_3.length c1_3), (.slice A1_4 l1_4.length c1_4), (.slice A1_5 l1_5.length c1_5)] 44 (0, 0))) ∧ Aside0 (Below w.heap.size w w'))
          case atStart => exact ⟨(0), (by first | rfl | (simp; done) | (simp [*]; done)), H', ⟨Nat.le_refl _⟩, ⟨by (with_reducible repeat (first | apply kn_ | apply kd_ | apply ka_)); exact BK401.out⟩, ⟨by (with_reducible repeat (first | apply kn_ | apply kd_ | apply ka_)); exact BK402.out⟩, ⟨by repeat (first | (with_reducible first | exact HB.out | apply ba_ | apply bn_ | apply bd_ | refine bs_ ?_ GE401.out | refine bs_ ?_ GE402.out) | exact HB.out)⟩⟩
          case round =>
           clear H'
           try clear c1
           try clear c2
           try clear p2
           try clear c3
           try clear c4
           try clear p4
           try clear q4
           try clear hx4
           try clear c5
           try clear c6
           try clear p6
           try clear c7
           try clear c7b0
           try clear c8
           try clear c8b0
           try clear c9
           try clear c9b0
           try clear c11
           try clear c13
           try clear c15
           try clear c16
           try clear c18
           try clear c25
           try clear c26
           try clear c28
           try clear c35
           try clear c36
           try clear c38
           try clear p40
           try clear q40
           try clear hx40
           try clear c41
           try clear p41
           try clear q41
           try clear hx41
           try clear c43
           try clear c43b0
           try clear c44
           try clear c44b0
           try clear c45
           try clear c45b0
           try clear c47
           try clear c49
           try clear c51
           try clear c52
           try clear c54
           try clear c61
           try clear c62
           try clear c64
           try clear p64
           try clear c71
           try clear c72
           try clear c74
           try clear c77
           try clear c79
           try clear c79b0
           try clear c80
           try clear c80b0
           try clear c81
           try clear c81b0
           try clear c83
           try clear c85
           try clear c86
           try clear c88
           try clear c92
           try clear c93
           try clear c95
           try clear c98
           try clear hcz17
           try clear hcz19
           try clear hcz21
           try clear hcz22
           try clear hcz27
           try clear hcz29
           try clear hcz31
           try clear hcz32
           try clear hcz37
           try clear hcz39
           try clear hcz42
           try clear hcz53
           try clear hcz55
           try clear hcz57
           try clear hcz58
           try clear hcz63
           try clear hcz65
           try clear hcz67
           try clear hcz68
           try clear hcz6
           try clear hcz73
           try clear hcz75
           try clear hcz78
           try clear hcz87_0 hcz87_1
           try clear hcz89
           try clear hcz94_0 hcz94_1
           try clear hcz96
           try clear hcz99
           try clear hfz17
           try clear hfz19
           try clear hfz21
           try clear hfz22
           try clear hfz27
           try clear hfz29
           try clear hfz31
           try clear hfz32
           try clear hfz37
           try clear hfz39
           try clear hfz42
           try clear hfz53
           try clear hfz55
           try clear hfz57
           try clear hfz58
           try clear hfz63
           try clear hfz65
           try clear hfz67
           try clear hfz68
           try clear hfz6
           try clear hfz73
           try clear hfz75
           try clear hfz78
           try clear hfz87_0 hfz87_1
           try clear hfz89
           try clear hfz94_0 hfz94_1
           try clear hfz96
           try clear hfz99
           try clear hx403_0
           try clear hx403_1
           try clear hx403_2
           try clear hx403_3
           try clear hx407_0
           try clear hx407_1
           try clear hx407_2
           try clear hx407_3
           try clear hx411_0
           try clear hx411_1
           try clear p2
           try clear p4
           try clear p40
           try clear p403
           try clear p407
           try clear p411
           try clear p6
           try clear p64
           try clear q4
           try clear q40
           try clear q403
           try clear q407
           try clear q411
           obtain ⟨x69_4, rfl, HA, HK4, BK401, BK402, HB⟩ := hrel
           cases gk with
           | zero => exact absurd HA.out (by simp [r33_nodes.l3])
           | succ k4 =>
            have H := HA.out
            clear HA
            simp only [r33_nodes.l3] at H
            by_cases c100 : x69_4 < (l1_5.length : Int)
            ·rw [if_pos c100] at H
             have c100b0 : decide (x69_4 < (l1_5.length : Int)) = true := decide_eq_true c100
             clear c100
             by_cases c101 : 0 ≤ x69_4
             ·rw [if_pos c101] at H
              have c101b0 : decide (0 ≤ x69_4) = true := decide_eq_true c101
              clear c101
              by_cases c102 : x69_4 < (l1_5.length : Int)
              ·rw [if_pos c102] at H
               have c102b0 : decide (x69_4 < (l1_5.length : Int)) = true := decide_eq_true c102
               clear c102
               obtain ⟨t416, A103, H⟩ := bes_ H
               try dsimp only at H
               by_cases c104 : t416 = true
               ·subst c104
                rw [if_pos rfl] at H
                have H' := am_ H
                clear H
                have p414 : 0 ≤ (x69_4 : Int) := of_decide_eq_true (by first | (with_reducible assumption) | assumption)
                have q414 : x69_4 < (l1_5.length : Int) := of_decide_eq_true (by first | (with_reducible assumption) | assumption)
                obtain ⟨ad414, e414, hx414_0, hx414_1⟩ := at_T81 HR1_5.out x69_4 p414 q414
                cases e414
                replace hx414_0 := (HB.out.cell (World.block_lt_of_cell? w _ hx414_0)).trans hx414_0
                replace hx414_1 := (HB.out.cell (World.block_lt_of_cell? w _ hx414_1)).trans hx414_1
                replace p414 := eq_true p414
                replace q414 := eq_true q414
                go_wp2_with (first | ((with_reducible refine gate_dst (N := 12) rfl ?_); refine bxe_ 12 81 #[.int .i64 0, .string (⟨#[]⟩ : ByteArray)] ?_; intro gb415 hg w105 hbox hb; have BK415 := am_ (hbox); have GW415 := gwk_ HB hg; have GE415 := GW415; replace HB := bst_ HB hb; have NB401_415 := nbk_ BK401 hg; have NB415_401 := nbs_ NB401_415; replace BK401 := bkb_ BK401 hb; have NB402_415 := nbk_ BK402 hg; have NB415_402 := nbs_ NB402_415; replace BK402 := bkb_ BK402 hb; clear hb hbox hg; have hnb106 := NB415_401.out; have hnc106 := NB401_415.out; have hnb107 := NB415_402.out; have hnc107 := NB402_415.out; obtain ⟨hcz108_0, hcz108_1⟩ := cells_2 BK415.out; obtain ⟨hfz108_0, hfz108_1⟩ := frozen_2 BK415.out; have hnb109 := NB401_402.out; have hnc109 := NB402_401.out; have hcz110 := cells_11 BK401.out; have hfz110 := frozen_11 BK401.out) | ((with_reducible refine gate_callee (f := 43) rfl ?_); refine gom_ (some 76) Try.func43 (r33_node.calls a0_0 a0_1 a0_2 a0_3 a0_4 a0_5 a0_6 a0_7 a0_8 a0_9 _ _ l0_10 ((rd_T81 l1_5 x69_4).f0) _ _ ?side1 HC0_10.out A103.out) ?_; (case side1 => exact Kd.C_below HR0_10.out (by repeat (first | (with_reducible first | exact HB.out | apply ba_ | apply bn_ | apply bd_ | refine bs_ ?_ GE401.out | refine bs_ ?_ GE402.out | refine bs_ ?_ GE415.out) | exact HB.out))); rintro e w111 ⟨rfl, hb⟩; refine ⟨_, rfl, ?_⟩; replace BK401 := am_ (blk_below (g := gb401) (o := .cells #[.int .i64 a0_0, .int .i64 a0_1, .int .i64 a0_2, .int .i64 a0_3, .int .i64 a0_4, .int .i64 a0_5, .int .i64 a0_6, .int .i64 a0_7, .int .i64 a0_8, .int .i64 a0_9, .slice A0_10 l0_10.length c0_10] 24 (0, 0)) (by (iterate 2 ((with_reducible repeat (first | apply kn_ | apply kd_ | apply ka_)); refine blk_far ?_ NB401_415.out _)); (with_reducible repeat (first | apply kn_ | apply kd_ | apply ka_)); exact BK401.out) hb); replace BK402 := am_ (blk_below (g := gb402) (o := .cells #[.slice A1_0 l1_0.length c1_0, .slice A1_1 l1_1.length c1_1, .slice A1_2 l1_2.length c1_2, .slice A1_3 l1_3.length c1_3, .slice A1_4 l1_4.length c1_4, .slice (some ad414) l1_5.length c1_5] 44 (0, 0)) (by (iterate 2 ((with_reducible repeat (first | apply kn_ | apply kd_ | apply ka_)); refine blk_far ?_ NB402_415.out _)); (with_reducible repeat (first | apply kn_ | apply kd_ | apply ka_)); exact BK402.out) hb); replace BK415 := am_ (blk_below (g := gb415) (o := .cells #[.int .i64 ((rd_T81 l1_5 x69_4).f0), .string ((rd_T81 l1_5 x69_4).f1)] 81 (0, 0)) (by (with_reducible repeat (first | apply kn_ | apply kd_ | apply ka_)); refine blk_put (cs := #[.int .i64 ((rd_T81 l1_5 x69_4).f0), .string (⟨#[]⟩ : ByteArray)]) ?_ 1 _ rfl; (with_reducible repeat (first | apply kn_ | apply kd_ | apply ka_)); refine blk_put (cs := #[.int .i64 0, .string (⟨#[]⟩ : ByteArray)]) ?_ 0 _ rfl; (with_reducible repeat (first | apply kn_ | apply kd_ | apply ka_)); exact BK415.out) hb); replace HB := am_ (below_step (by repeat (first | (with_reducible first | exact HB.out | apply ba_ | apply bn_ | apply bd_ | refine bs_ ?_ GE401.out | refine bs_ ?_ GE402.out | refine bs_ ?_ GE415.out) | exact HB.out)) hb); (try clear hb)))
                go_roundg k4
                case measure => have := HK1.out; have := HK2.out; have := HK3.out; have := HK4.out; omega
                case rel => exact ⟨(wrap64 (x69_4 + 1)), (by first | rfl | (simp; done) | (simp [*]; done)), H', ⟨by have := HK1.out; have := HK2.out; have := HK3.out; have := HK4.out; omega⟩, ⟨by (with_reducible repeat (first | apply kn_ | apply kd_ | apply ka_)); exact BK401.out⟩, ⟨by (with_reducible repeat (first | apply kn_ | apply kd_ | apply ka_)); exact BK402.out⟩, ⟨by repeat (first | (with_reducible first | exact HB.out | apply ba_ | apply bn_ | apply bd_ | refine bs_ ?_ GE401.out | refine bs_ ?_ GE402.out | refine bs_ ?_ GE415.out) | exact HB.out)⟩⟩
               ·replace c104 := Bool.eq_false_iff.mpr c104
                subst c104
                rw [if_neg (show ¬ (false = true) by decide)] at H
                obtain rfl := Option.some.inj H
                have p414 : 0 ≤ (x69_4 : Int) := of_decide_eq_true (by first | (with_reducible assumption) | assumption)
                have q414 : x69_4 < (l1_5.length : Int) := of_decide_eq_true (by first | (with_reducible assumption) | assumption)
                obtain ⟨ad414, e414, hx414_0, hx414_1⟩ := at_T81 HR1_5.out x69_4 p414 q414
                cases e414
                replace hx414_0 := (HB.out.cell (World.block_lt_of_cell? w _ hx414_0)).trans hx414_0
                replace hx414_1 := (HB.out.cell (World.block_lt_of_cell? w _ hx414_1)).trans hx414_1
                replace p414 := eq_true p414
                replace q414 := eq_true q414
                go_wp2_with (first | ((with_reducible refine gate_dst (N := 12) rfl ?_); refine bxe_ 12 81 #[.int .i64 0, .string (⟨#[]⟩ : ByteArray)] ?_; intro gb415 hg w112 hbox hb; have BK415 := am_ (hbox); have GW415 := gwk_ HB hg; have GE415 := GW415; replace HB := bst_ HB hb; have NB401_415 := nbk_ BK401 hg; have NB415_401 := nbs_ NB401_415; replace BK401 := bkb_ BK401 hb; have NB402_415 := nbk_ BK402 hg; have NB415_402 := nbs_ NB402_415; replace BK402 := bkb_ BK402 hb; clear hb hbox hg; have hnb113 := NB415_401.out; have hnc113 := NB401_415.out; have hnb114 := NB415_402.out; have hnc114 := NB402_415.out; obtain ⟨hcz115_0, hcz115_1⟩ := cells_2 BK415.out; obtain ⟨hfz115_0, hfz115_1⟩ := frozen_2 BK415.out; have hnb116 := NB401_402.out; have hnc116 := NB402_401.out; have hcz117 := cells_11 BK401.out; have hfz117 := frozen_11 BK401.out) | ((with_reducible refine gate_callee (f := 43) rfl ?_); refine gom_ (some 76) Try.func43 (r33_node.calls a0_0 a0_1 a0_2 a0_3 a0_4 a0_5 a0_6 a0_7 a0_8 a0_9 _ _ l0_10 ((rd_T81 l1_5 x69_4).f0) _ _ ?side1 HC0_10.out A103.out) ?_; (case side1 => exact Kd.C_below HR0_10.out (by repeat (first | (with_reducible first | exact HB.out | apply ba_ | apply bn_ | apply bd_ | refine bs_ ?_ GE401.out | refine bs_ ?_ GE402.out | refine bs_ ?_ GE415.out) | exact HB.out))); rintro e w118 ⟨rfl, hb⟩; refine ⟨_, rfl, ?_⟩; replace BK401 := am_ (blk_below (g := gb401) (o := .cells #[.int .i64 a0_0, .int .i64 a0_1, .int .i64 a0_2, .int .i64 a0_3, .int .i64 a0_4, .int .i64 a0_5, .int .i64 a0_6, .int .i64 a0_7, .int .i64 a0_8, .int .i64 a0_9, .slice A0_10 l0_10.length c0_10] 24 (0, 0)) (by (iterate 2 ((with_reducible repeat (first | apply kn_ | apply kd_ | apply ka_)); refine blk_far ?_ NB401_415.out _)); (with_reducible repeat (first | apply kn_ | apply kd_ | apply ka_)); exact BK401.out) hb); replace BK402 := am_ (blk_below (g := gb402) (o := .cells #[.slice A1_0 l1_0.length c1_0, .slice A1_1 l1_1.length c1_1, .slice A1_2 l1_2.length c1_2, .slice A1_3 l1_3.length c1_3, .slice A1_4 l1_4.length c1_4, .slice (some ad414) l1_5.length c1_5] 44 (0, 0)) (by (iterate 2 ((with_reducible repeat (first | apply kn_ | apply kd_ | apply ka_)); refine blk_far ?_ NB402_415.out _)); (with_reducible repeat (first | apply kn_ | apply kd_ | apply ka_)); exact BK402.out) hb); replace BK415 := am_ (blk_below (g := gb415) (o := .cells #[.int .i64 ((rd_T81 l1_5 x69_4).f0), .string ((rd_T81 l1_5 x69_4).f1)] 81 (0, 0)) (by (with_reducible repeat (first | apply kn_ | apply kd_ | apply ka_)); refine blk_put (cs := #[.int .i64 ((rd_T81 l1_5 x69_4).f0), .string (⟨#[]⟩ : ByteArray)]) ?_ 1 _ rfl; (with_reducible repeat (first | apply kn_ | apply kd_ | apply ka_)); refine blk_put (cs := #[.int .i64 0, .string (⟨#[]⟩ : ByteArray)]) ?_ 0 _ rfl; (with_reducible repeat (first | apply kn_ | apply kd_ | apply ka_)); exact BK415.out) hb); replace HB := am_ (below_step (by repeat (first | (with_reducible first | exact HB.out | apply ba_ | apply bn_ | apply bd_ | refine bs_ ?_ GE401.out | refine bs_ ?_ GE402.out | refine bs_ ?_ GE415.out) | exact HB.out)) hb); (try clear hb)))
                go_ret
                exact ⟨by first | rfl | (simp [*] <;> rfl), by repeat (first | (with_reducible first | exact HB.out | apply ba_ | apply bn_ | apply bd_ | refine bs_ ?_ GE401.out | refine bs_ ?_ GE402.out | refine bs_ ?_ GE415.out) | exact HB.out)⟩
              ·rw [if_neg c102] at H
               exact absurd H (by simp)
             ·rw [if_neg c101] at H
              exact absurd H (by simp)
            ·rw [if_neg c100] at H
             have c100b0 : decide (x69_4 < (l1_5.length : Int)) = false := decide_eq_false c100
             clear c100
             obtain rfl := Option.some.inj H
             go_wp2
             go_ret
             exact ⟨by first | rfl | (simp [*] <;> rfl), by repeat (first | (with_reducible first | exact HB.out | apply ba_ | apply bn_ | apply bd_ | refine bs_ ?_ GE401.out | refine bs_ ?_ GE402.out) | exact HB.out)⟩
end Go.Proofs.Ythdoghhmooodjaa.Gn
