import Derived.Test.YtbedfoeifaegmaaZLogKeepsGn0
import Derived.Test.YtbedfoeifaegmaaZLogKeepsGn2
import Derived.Test.YtbedfoeifaegmaaZLogKeepsGn13
namespace Go.Proofs.Ytbedfoeifaegmaa.Gn
open Go.RowKit Go.Proofs.YtbedfoeifaegmaaW.PrintWords Go.Proofs.YtbedfoeifaegmaaW.PrintLast Go.Proofs.YtbedfoeifaegmaaW.PrintMore
attribute [local go_sem] max2_int min2_int max_two min_two max_three min_three max_four min_four   -- for this text's walks alone
set_option linter.unusedVariables false
set_option linter.unusedSimpArgs false
mutual
def r06_Who.l0 : Nat → List (S43) → Int → Int → List Int → Int → Option (List Int)
 | 0, _, _, _, _, _ => none
 | k + 1, x0, x1, x2, x7, x8 => if x8 < (x0.length : Int) then (if 0 ≤ x8 then ((r06_alive.f ((rd_T43 x0 x8).f0) ((rd_T43 x0 x8).f1) x1 x2).bind fun t402 => (if t402 = true then (r06_Who.l1 k x0 x1 x2 x7 x8 0) else (r06_Who.l0 k x0 x1 x2 x7 (wrap64 (x8 + 1))))) else (none)) else (some x7)
def r06_Who.l1 : Nat → List (S43) → Int → Int → List Int → Int → Int → Option (List Int)
 | 0, _, _, _, _, _, _ => none
 | k + 1, x0, x1, x2, x7, x8, x9 => if x9 < (x7.length : Int) then (if 0 ≤ x9 then (if 0 ≤ x8 then (if x8 < (x0.length : Int) then (if (rd x7 x9) < ((rd_T43 x0 x8).f0) then (r06_Who.l1 k x0 x1 x2 x7 x8 (wrap64 (x9 + 1))) else (if (rd x7 x9) = ((rd_T43 x0 x8).f0) then (r06_Who.l0 k x0 x1 x2 x7 (wrap64 (x8 + 1))) else (if x9 ≤ (x7.length : Int) then ((some (x7.take (x9 : Int).toNat : List Int)).bind fun y407 => (if ([] : List Int).length + y407.length < 17592186044416 then ((some (([] : List Int) ++ y407 : List Int)).bind fun y411 => (if y411.length < 17592186044416 then ((some (y411 ++ [(rd_T43 x0 x8).f0] : List Int)).bind fun y415 => ((some (x7.drop (x9 : Int).toNat : List Int)).bind fun y418 => (if y415.length + y418.length < 17592186044416 then (r06_Who.l0 k x0 x1 x2 (y415 ++ y418) (wrap64 (x8 + 1))) else (none)))) else (none))) else (none))) else (none)))) else (none)) else (none)) else (none)) else (if 0 ≤ x9 then (if x9 ≤ (x7.length : Int) then ((some (x7.take (x9 : Int).toNat : List Int)).bind fun y425 => (if ([] : List Int).length + y425.length < 17592186044416 then ((some (([] : List Int) ++ y425 : List Int)).bind fun y429 => (if 0 ≤ x8 then (if x8 < (x0.length : Int) then (if y429.length < 17592186044416 then ((some (y429 ++ [(rd_T43 x0 x8).f0] : List Int)).bind fun y433 => ((some (x7.drop (x9 : Int).toNat : List Int)).bind fun y436 => (if y433.length + y436.length < 17592186044416 then (r06_Who.l0 k x0 x1 x2 (y433 ++ y436) (wrap64 (x8 + 1))) else (none)))) else (none)) else (none)) else (none))) else (none))) else (none)) else (none))
end
def r06_Who.f (k : Nat) (l0 : List (S43)) (a1 a2 : Int) : Option (List Int) := r06_Who.l0 k l0 a1 a2 ([] : List Int) 0
set_option maxHeartbeats 8000000 in
set_option maxRecDepth 100000 in
theorem r06_Who.calls (k : Nat) (A0 : Option Addr) (c0 : Nat) (l0 : List (S43)) (a1 a2 : Int) (r : List Int) (w : World) (hr0 : Kd.C k43 w A0 l0.length l0) (hc0 : l0.length ≤ c0) (h : r06_Who.f k l0 a1 a2 = some r) :
  Calls Try.prog 31 #[.slice A0 l0.length c0, .int .i64 a1, .int .i64 a2] w fun e w' => ∃ v0_ : Value, e = .returned (v0_) ∧ Kd.R (Kd.int .i64) 3 w' w.heap.size (fun _ => True) v0_ r ∧ Below w.heap.size w w' := by
 have hu43 := Try.underlying43
 have HR0 := Aside0.mk hr0
 have HC0 := Aside0.mk hc0
 clear hr0 hc0
 have HB := Aside0.mk (Below.refl w.heap.size w)
 have H : (r06_Who.l0 k l0 a1 a2 ([] : List Int) 0) = some r := h
 clear h
 have H' := Aside0.mk H
 clear H
 go_enter Try.func31, Try.ntmps31
 go_wp2
 repeat (go_quiet (fail); try go_wp2)
 go_loopg [7, 8] k (fun kq v7 v8 w' => ∃ (x7_1 : List Int) (x8_1 : Int), v8 = .int .i64 x8_1 ∧ Aside0 (r06_Who.l0 kq l0 a1 a2 x7_1 x8_1 = some r) ∧ Aside0 (kq ≤ k) ∧ Aside0 (Kd.R (Kd.int .i64) 3 w' w.heap.size (fun _ => True) v7 x7_1) ∧ Aside0 (Below w.heap.size w w'))
 case atStart => exact ⟨(([] : List Int)), (0), (by first | rfl | (simp; done) | (simp [*]; done)), H', ⟨Nat.le_refl _⟩, ⟨by first | exact Kd.R_nil _ _ _ _ _ | exact Kd.N_nil _ _ _ _ _ | exact Kd.V_nil _ _ _ _ _ | exact Kd.Q_nil _ _ _ _ _ | exact Kd.S_nil _ _ _ _ _⟩, ⟨by repeat (first | (with_reducible first | exact HB.out | apply below_alloc | apply pw_below_drewN | apply below_drew1) | exact HB.out)⟩⟩
 case round =>
  clear H'
  try clear p2
  try clear c3
  obtain ⟨x7_1, x8_1, rfl, HA, HK1, HO_7, HB⟩ := hrel
  cases gk with
  | zero => exact absurd HA.out (by simp [r06_Who.l0])
  | succ k1 =>
   have H := HA.out
   clear HA
   simp only [r06_Who.l0] at H
   by_cases c4 : x8_1 < (l0.length : Int)
   ·rw [if_pos c4] at H
    have c4b0 : decide (x8_1 < (l0.length : Int)) = true := decide_eq_true c4
    clear c4
    by_cases c5 : 0 ≤ x8_1
    ·rw [if_pos c5] at H
     have c5b0 : decide (0 ≤ x8_1) = true := decide_eq_true c5
     clear c5
     replace H := Option.bind_eq_some_iff.mp H
     obtain ⟨t402, A60, H⟩ := H
     try dsimp only at H
     have A6 := Aside0.mk A60
     clear A60
     by_cases c7 : t402 = true
     ·subst c7
      have H1 : (r06_Who.l1 k1 l0 a1 a2 x7_1 x8_1 0) = some r := by rw [if_pos rfl] at H; exact H
      clear H
      have H := H1
      clear H1
      have H' := Aside0.mk H
      clear H
      have p401 : 0 ≤ (x8_1 : Int) := of_decide_eq_true (by first | (with_reducible assumption) | assumption)
      have q401 : x8_1 < (l0.length : Int) := of_decide_eq_true (by first | (with_reducible assumption) | assumption)
      obtain ⟨ad401, e401, hx401_0, hx401_1⟩ := at_T43 HR0.out x8_1 p401 q401
      cases e401
      replace hx401_0 := (HB.out.cell (World.block_lt_of_cell? w _ hx401_0)).trans hx401_0
      replace hx401_1 := (HB.out.cell (World.block_lt_of_cell? w _ hx401_1)).trans hx401_1
      replace p401 := eq_true p401
      replace q401 := eq_true q401
      iterate 8 (go_wp2_with (first | (go_at_call 35; (with_reducible refine (r06_alive.calls ((rd_T43 l0 x8_1).f0) ((rd_T43 l0 x8_1).f1) a1 a2 true _ A6.out).mono ?_); rintro e w8 ⟨rfl, hb⟩; replace HO_7 := Aside0.mk (Kd.R_below (by (with_reducible repeat (first | apply Kd.R_alloc | apply Kd.R_drewN | apply Kd.R_drew)); exact HO_7.out) hb); replace HB := Aside0.mk (below_step (by repeat (first | (with_reducible first | exact HB.out | apply below_alloc | apply pw_below_drewN | apply below_drew1) | exact HB.out)) hb); (try clear hb); (try clear hb2); (try clear hk); (try clear hi))); try (go_quiet (first | (go_at_call 35; (with_reducible refine (r06_alive.calls ((rd_T43 l0 x8_1).f0) ((rd_T43 l0 x8_1).f1) a1 a2 true _ A6.out).mono ?_); rintro e w8 ⟨rfl, hb⟩; replace HO_7 := Aside0.mk (Kd.R_below (by (with_reducible repeat (first | apply Kd.R_alloc | apply Kd.R_drewN | apply Kd.R_drew)); exact HO_7.out) hb); replace HB := Aside0.mk (below_step (by repeat (first | (with_reducible first | exact HB.out | apply below_alloc | apply pw_below_drewN | apply below_drew1) | exact HB.out)) hb); (try clear hb); (try clear hb2); (try clear hk); (try clear hi)))))
      go_loopg [9] k1 (fun kq v9 w' => ∃ (x9_2 : Int), v9 = .int .i64 x9_2 ∧ Aside0 (r06_Who.l1 kq l0 a1 a2 x7_1 x8_1 x9_2 = some r) ∧ Aside0 (kq ≤ k1) ∧ Aside0 (Kd.R (Kd.int .i64) 3 w' w.heap.size (fun _ => True) u7 x7_1) ∧ Aside0 (Below w.heap.size w w'))
      case atStart => exact ⟨(0), (by first | rfl | (simp; done) | (simp [*]; done)), H', ⟨Nat.le_refl _⟩, ⟨by (with_reducible repeat (first | apply Kd.R_alloc | apply Kd.R_drewN | apply Kd.R_drew)); exact HO_7.out⟩, ⟨by repeat (first | (with_reducible first | exact HB.out | apply below_alloc | apply pw_below_drewN | apply below_drew1) | exact HB.out)⟩⟩
      case round =>
       clear H'
       try clear p2
       try clear c3
       try clear c4
       try clear c4b0
       try clear p4
       try clear q4
       try clear hx4
       try clear c5
       try clear c5b0
       try clear p6
       try clear c7
       try clear hx401_0
       try clear hx401_1
       try clear p2
       try clear p401
       try clear q401
       obtain ⟨x9_2, rfl, HA, HK2, HO_7, HB⟩ := hrel
       cases gk with
       | zero => exact absurd HA.out (by simp [r06_Who.l1])
       | succ k2 =>
        have H := HA.out
        clear HA
        simp only [r06_Who.l1] at H
        by_cases c9 : x9_2 < (x7_1.length : Int)
        ·rw [if_pos c9] at H
         have c9b0 : decide (x9_2 < (x7_1.length : Int)) = true := decide_eq_true c9
         clear c9
         by_cases c10 : 0 ≤ x9_2
         ·rw [if_pos c10] at H
          have c10b0 : decide (0 ≤ x9_2) = true := decide_eq_true c10
          clear c10
          by_cases c11 : 0 ≤ x8_1
          ·rw [if_pos c11] at H
           have c11b0 : decide (0 ≤ x8_1) = true := decide_eq_true c11
           clear c11
           by_cases c12 : x8_1 < (l0.length : Int)
           ·rw [if_pos c12] at H
            have c12b0 : decide (x8_1 < (l0.length : Int)) = true := decide_eq_true c12
            clear c12
            by_cases c13 : (rd x7_1 x9_2) < ((rd_T43 l0 x8_1).f0)
            ·rw [if_pos c13] at H
             have c13b0 : decide ((rd x7_1 x9_2) < ((rd_T43 l0 x8_1).f0)) = true := decide_eq_true c13
             clear c13
             have H' := Aside0.mk H
             clear H
             obtain ⟨Ao14, co14, eo14⟩ := Kd.R_slice HO_7.out
             subst eo14
             have p403 : 0 ≤ (x9_2 : Int) := of_decide_eq_true (by first | (with_reducible assumption) | assumption)
             have q403 : x9_2 < (x7_1.length : Int) := of_decide_eq_true (by first | (with_reducible assumption) | assumption)
             obtain ⟨ad403, e403, hx403_0⟩ := Kd.at_int (Kd.R_reads' HO_7.out).2.2 x9_2 p403 q403
             cases e403
             replace p403 := eq_true p403
             replace q403 := eq_true q403
             have p404 : 0 ≤ (x8_1 : Int) := of_decide_eq_true (by first | (with_reducible assumption) | assumption)
             have q404 : x8_1 < (l0.length : Int) := of_decide_eq_true (by first | (with_reducible assumption) | assumption)
             obtain ⟨ad404, e404, hx404_0, hx404_1⟩ := at_T43 HR0.out x8_1 p404 q404
             obtain rfl : ad401 = ad404 := (by injection e404)
             replace hx404_0 := (HB.out.cell (World.block_lt_of_cell? w _ hx404_0)).trans hx404_0
             replace hx404_1 := (HB.out.cell (World.block_lt_of_cell? w _ hx404_1)).trans hx404_1
             replace p404 := eq_true p404
             replace q404 := eq_true q404
             go_wp2
             repeat (go_quiet (fail); try go_wp2)
             go_roundg k2
             case measure => have := HK1.out; have := HK2.out; omega
             case rel => exact ⟨(wrap64 (x9_2 + 1)), (by first | rfl | (simp; done) | (simp [*]; done)), H', ⟨by have := HK1.out; have := HK2.out; omega⟩, ⟨by (with_reducible repeat (first | apply Kd.R_alloc | apply Kd.R_drewN | apply Kd.R_drew)); exact HO_7.out⟩, ⟨by repeat (first | (with_reducible first | exact HB.out | apply below_alloc | apply pw_below_drewN | apply below_drew1) | exact HB.out)⟩⟩
            ·rw [if_neg c13] at H
             have c13b0 : decide ((rd x7_1 x9_2) < ((rd_T43 l0 x8_1).f0)) = false := decide_eq_false c13
             clear c13
             by_cases c15 : (rd x7_1 x9_2) = ((rd_T43 l0 x8_1).f0)
             ·rw [if_pos c15] at H
              have c15b0 : ((rd x7_1 x9_2) == ((rd_T43 l0 x8_1).f0)) = true := beq_iff_eq.mpr c15
              have c15b1 : ((rd x7_1 x9_2) != ((rd_T43 l0 x8_1).f0)) = false := bne_eq_false_iff_eq.mpr c15
              clear c15
              have H' := Aside0.mk H
              clear H
              obtain ⟨Ao16, co16, eo16⟩ := Kd.R_slice HO_7.out
              subst eo16
              have p403 : 0 ≤ (x9_2 : Int) := of_decide_eq_true (by first | (with_reducible assumption) | assumption)
              have q403 : x9_2 < (x7_1.length : Int) := of_decide_eq_true (by first | (with_reducible assumption) | assumption)
              obtain ⟨ad403, e403, hx403_0⟩ := Kd.at_int (Kd.R_reads' HO_7.out).2.2 x9_2 p403 q403
              cases e403
              replace p403 := eq_true p403
              replace q403 := eq_true q403
              have p404 : 0 ≤ (x8_1 : Int) := of_decide_eq_true (by first | (with_reducible assumption) | assumption)
              have q404 : x8_1 < (l0.length : Int) := of_decide_eq_true (by first | (with_reducible assumption) | assumption)
              obtain ⟨ad404, e404, hx404_0, hx404_1⟩ := at_T43 HR0.out x8_1 p404 q404
              obtain rfl : ad401 = ad404 := (by injection e404)
              replace hx404_0 := (HB.out.cell (World.block_lt_of_cell? w _ hx404_0)).trans hx404_0
              replace hx404_1 := (HB.out.cell (World.block_lt_of_cell? w _ hx404_1)).trans hx404_1
              replace p404 := eq_true p404
              replace q404 := eq_true q404
              have p405 : 0 ≤ (x9_2 : Int) := of_decide_eq_true (by first | (with_reducible assumption) | assumption)
              have q405 : x9_2 < (x7_1.length : Int) := of_decide_eq_true (by first | (with_reducible assumption) | assumption)
              obtain ⟨ad405, e405, hx405_0⟩ := Kd.at_int (Kd.R_reads' HO_7.out).2.2 x9_2 p405 q405
              obtain rfl : ad403 = ad405 := (by injection e405)
              replace p405 := eq_true p405
              replace q405 := eq_true q405
              have p406 : 0 ≤ (x8_1 : Int) := of_decide_eq_true (by first | (with_reducible assumption) | assumption)
              have q406 : x8_1 < (l0.length : Int) := of_decide_eq_true (by first | (with_reducible assumption) | assumption)
              obtain ⟨ad406, e406, hx406_0, hx406_1⟩ := at_T43 HR0.out x8_1 p406 q406
              obtain rfl : ad401 = ad406 := (by injection e406)
              replace hx406_0 := (HB.out.cell (World.block_lt_of_cell? w _ hx406_0)).trans hx406_0
              replace hx406_1 := (HB.out.cell (World.block_lt_of_cell? w _ hx406_1)).trans hx406_1
              replace p406 := eq_true p406
              replace q406 := eq_true q406
              go_wp2
              repeat (go_quiet (fail); try go_wp2)
              go_roundg k2
              case measure => have := HK1.out; have := HK2.out; omega
              case rel => exact ⟨(x7_1), (wrap64 (x8_1 + 1)), (by first | rfl | (simp; done) | (simp [*]; done)), H', ⟨by have := HK1.out; have := HK2.out; omega⟩, ⟨by (with_reducible repeat (first | apply Kd.R_alloc | apply Kd.R_drewN | apply Kd.R_drew)); exact HO_7.out⟩, ⟨by repeat (first | (with_reducible first | exact HB.out | apply below_alloc | apply pw_below_drewN | apply below_drew1) | exact HB.out)⟩⟩
             ·rw [if_neg c15] at H
              have c15b0 : ((rd x7_1 x9_2) == ((rd_T43 l0 x8_1).f0)) = false := beq_eq_false_iff_ne.mpr c15
              have c15b1 : ((rd x7_1 x9_2) != ((rd_T43 l0 x8_1).f0)) = true := bne_iff_ne.mpr c15
              have c17b0 := eq_true (of_decide_eq_true (by first | (with_reducible assumption) | assumption) : 0 ≤ x9_2)
              by_cases c18 : x9_2 ≤ (x7_1.length : Int)
              ·rw [if_pos c18] at H
               have c18b0 := eq_true c18
               have c18b1 : decide (x9_2 ≤ (x7_1.length : Int)) = true := decide_eq_true c18
               clear c18
               obtain ⟨y407, hy407⟩ : ∃ y_ : List Int, y_ = (x7_1.take (x9_2 : Int).toNat) := ⟨_, rfl⟩
               replace H : (if ([] : List Int).length + y407.length < 17592186044416 then ((some (([] : List Int) ++ y407 : List Int)).bind fun y411 => (if y411.length < 17592186044416 then ((some (y411 ++ [(rd_T43 l0 x8_1).f0] : List Int)).bind fun y415 => ((some (x7_1.drop (x9_2 : Int).toNat : List Int)).bind fun y418 => (if y415.length + y418.length < 17592186044416 then (r06_Who.l0 k2 l0 a1 a2 (y415 ++ y418) (wrap64 (x8_1 + 1))) else (none)))) else (none))) else (none)) = some r := by first | (rw [hy407]; with_reducible exact H) | (have H2_ := (Option.bind_some _ _).symm.trans H; rw [hy407]; with_reducible exact H2_) | (have H2_ := (Option.bind_some _ _).symm.trans H; with_reducible exact H2_) | with_reducible exact H | (rw [hy407]; exact H) | exact H
               have Ny407 := Aside0.mk hy407
               clear hy407
               by_cases c19 : ([] : List Int).length + y407.length < 17592186044416
               ·rw [if_pos c19] at H
                have LMc19 := Aside0.mk c19
                clear c19
                obtain ⟨y411, hy411⟩ : ∃ y_ : List Int, y_ = (([] : List Int) ++ y407) := ⟨_, rfl⟩
                replace H : (if y411.length < 17592186044416 then ((some (y411 ++ [(rd_T43 l0 x8_1).f0] : List Int)).bind fun y415 => ((some (x7_1.drop (x9_2 : Int).toNat : List Int)).bind fun y418 => (if y415.length + y418.length < 17592186044416 then (r06_Who.l0 k2 l0 a1 a2 (y415 ++ y418) (wrap64 (x8_1 + 1))) else (none)))) else (none)) = some r := by first | (rw [hy411]; with_reducible exact H) | (have H2_ := (Option.bind_some _ _).symm.trans H; rw [hy411]; with_reducible exact H2_) | (have H2_ := (Option.bind_some _ _).symm.trans H; with_reducible exact H2_) | with_reducible exact H | (rw [hy411]; exact H) | exact H
                have Ny411 := Aside0.mk hy411
                clear hy411
                by_cases c20 : y411.length < 17592186044416
                ·rw [if_pos c20] at H
                 have LMc20 := Aside0.mk c20
                 clear c20
                 obtain ⟨y415, hy415⟩ : ∃ y_ : List Int, y_ = (y411 ++ [(rd_T43 l0 x8_1).f0]) := ⟨_, rfl⟩
                 replace H : ((some (x7_1.drop (x9_2 : Int).toNat : List Int)).bind fun y418 => (if y415.length + y418.length < 17592186044416 then (r06_Who.l0 k2 l0 a1 a2 (y415 ++ y418) (wrap64 (x8_1 + 1))) else (none))) = some r := by first | (rw [hy415]; with_reducible exact H) | (have H2_ := (Option.bind_some _ _).symm.trans H; rw [hy415]; with_reducible exact H2_) | (have H2_ := (Option.bind_some _ _).symm.trans H; with_reducible exact H2_) | with_reducible exact H | (rw [hy415]; exact H) | exact H
                 have Ny415 := Aside0.mk hy415
                 clear hy415
                 have c21b0 := eq_true (of_decide_eq_true (by first | (with_reducible assumption) | assumption) : 0 ≤ x9_2)
                 have c22b0 := eq_true (of_decide_eq_true (by first | (with_reducible assumption) | assumption) : x9_2 ≤ (x7_1.length : Int))
                 obtain ⟨y418, hy418⟩ : ∃ y_ : List Int, y_ = (x7_1.drop (x9_2 : Int).toNat) := ⟨_, rfl⟩
                 replace H : (if y415.length + y418.length < 17592186044416 then (r06_Who.l0 k2 l0 a1 a2 (y415 ++ y418) (wrap64 (x8_1 + 1))) else (none)) = some r := by first | (rw [hy418]; with_reducible exact H) | (have H2_ := (Option.bind_some _ _).symm.trans H; rw [hy418]; with_reducible exact H2_) | (have H2_ := (Option.bind_some _ _).symm.trans H; with_reducible exact H2_) | with_reducible exact H | (rw [hy418]; exact H) | exact H
                 have Ny418 := Aside0.mk hy418
                 clear hy418
                 by_cases c23 : y415.length + y418.length < 17592186044416
                 ·rw [if_pos c23] at H
                  have LMc23 := Aside0.mk c23
                  clear c23
                  obtain ⟨y422, hy422⟩ : ∃ y_ : List Int, y_ = (y415 ++ y418) := ⟨_, rfl⟩
                  replace H : (r06_Who.l0 k2 l0 a1 a2 y422 (wrap64 (x8_1 + 1))) = some r := by first | (rw [hy422]; with_reducible exact H) | (have H2_ := (Option.bind_some _ _).symm.trans H; rw [hy422]; with_reducible exact H2_) | (have H2_ := (Option.bind_some _ _).symm.trans H; with_reducible exact H2_) | with_reducible exact H | (rw [hy422]; exact H) | exact H
                  have Ny422 := Aside0.mk hy422
                  clear hy422
                  have H' := Aside0.mk H
                  clear H
                  obtain ⟨Ao24, co24, eo24⟩ := Kd.R_slice HO_7.out
                  subst eo24
                  have p403 : 0 ≤ (x9_2 : Int) := of_decide_eq_true (by first | (with_reducible assumption) | assumption)
                  have q403 : x9_2 < (x7_1.length : Int) := of_decide_eq_true (by first | (with_reducible assumption) | assumption)
                  obtain ⟨ad403, e403, hx403_0⟩ := Kd.at_int (Kd.R_reads' HO_7.out).2.2 x9_2 p403 q403
                  cases e403
                  replace p403 := eq_true p403
                  replace q403 := eq_true q403
                  have p404 : 0 ≤ (x8_1 : Int) := of_decide_eq_true (by first | (with_reducible assumption) | assumption)
                  have q404 : x8_1 < (l0.length : Int) := of_decide_eq_true (by first | (with_reducible assumption) | assumption)
                  obtain ⟨ad404, e404, hx404_0, hx404_1⟩ := at_T43 HR0.out x8_1 p404 q404
                  obtain rfl : ad401 = ad404 := (by injection e404)
                  replace hx404_0 := (HB.out.cell (World.block_lt_of_cell? w _ hx404_0)).trans hx404_0
                  replace hx404_1 := (HB.out.cell (World.block_lt_of_cell? w _ hx404_1)).trans hx404_1
                  replace p404 := eq_true p404
                  replace q404 := eq_true q404
                  have p405 : 0 ≤ (x9_2 : Int) := of_decide_eq_true (by first | (with_reducible assumption) | assumption)
                  have q405 : x9_2 < (x7_1.length : Int) := of_decide_eq_true (by first | (with_reducible assumption) | assumption)
                  obtain ⟨ad405, e405, hx405_0⟩ := Kd.at_int (Kd.R_reads' HO_7.out).2.2 x9_2 p405 q405
                  obtain rfl : ad403 = ad405 := (by injection e405)
                  replace p405 := eq_true p405
                  replace q405 := eq_true q405
                  have p406 : 0 ≤ (x8_1 : Int) := of_decide_eq_true (by first | (with_reducible assumption) | assumption)
                  have q406 : x8_1 < (l0.length : Int) := of_decide_eq_true (by first | (with_reducible assumption) | assumption)
                  obtain ⟨ad406, e406, hx406_0, hx406_1⟩ := at_T43 HR0.out x8_1 p406 q406
                  obtain rfl : ad401 = ad406 := (by injection e406)
                  replace hx406_0 := (HB.out.cell (World.block_lt_of_cell? w _ hx406_0)).trans hx406_0
                  replace hx406_1 := (HB.out.cell (World.block_lt_of_cell? w _ hx406_1)).trans hx406_1
                  replace p406 := eq_true p406
                  replace q406 := eq_true q406
                  have q25 : (x9_2 : Int) ≤ ((x7_1.length : Int) : Int) := of_decide_eq_true (by first | (with_reducible assumption) | assumption)
                  obtain ⟨i025, hi025, _, hsz25, _⟩ := info_parts info3
                  have hroom25 : x7_1.length ≤ co24 := (Kd.R_reads' HO_7.out).2.1
                  have hC25 : Kd.C (Kd.int .i64) _ (some ad403) x7_1.length x7_1 := (Kd.R_reads' HO_7.out).2.2
                  have hcut25 := cut_to (P := Try.prog) 32 3 .i64 Try.underlying32 hi025 (some ad403) x7_1.length co24 x9_2 (of_decide_eq_true (by first | (with_reducible assumption) | assumption)) q25 hroom25
                  have hr25 := Kd.C_take (m := (x9_2 : Int).toNat) hC25 (by omega)
                  have hy25 : y407.length = (x9_2 : Int).toNat := (by rw [Ny407.out, List.length_take]; omega)
                  rw [← Ny407.out] at hr25
                  rw [← hy25] at hcut25
                  have HR410 := Aside0.mk hr25
                  have HC410 := Aside0.mk (show y407.length ≤ co24 from by omega)
                  clear hr25 hC25 hroom25 hi025 hsz25
                  have KY25 := Aside0.mk hy25
                  clear hy25
                  have KL25 := Aside0.mk (show (x9_2 : Int).toNat ≤ x7_1.length from by omega)
                  replace q25 := eq_true q25
                  iterate 8 (go_wp2_with (first | ((with_reducible refine gate_builtin (b := .append) (xs := #[.tmp 59, .tmp 62]) rfl ?_); at_builtin; refine Kd.R_append_rows (Kd.int .i64) (w0 := w) w.heap.size rfl (.tmp 59) (.tmp 62) 32 3 (.int .i64 0) 8 rfl Try.underlying32 info3 rfl (by decide) (by omega) (.slice none 0 0) ([] : List Int) y407 _ _ _ (fun k_ => some k_ ≠ (.slice (some ad403) x7_1.length co24 : Value).ownBlock) (fun _ => False) rfl rfl ?aO ?aR (fun _ _ h => h) (fun _ h => h.elim) ?aF ?aB ?aS ?aL ?_; (case aR => repeat (first | exact (by repeat (first | (with_reducible exact HR410.out) | (with_reducible refine Kd.C_alloc ?_ _) | (with_reducible refine Kd.C_drewN ?_ _) | (with_reducible refine Kd.C_drew ?_) | exact HR410.out)) | (with_reducible refine Kd.C_alloc ?_ _) | (with_reducible refine Kd.C_drewN ?_ _) | (with_reducible refine Kd.C_drew ?_))); (case aB => exact (by repeat (first | (with_reducible first | exact HB.out | apply below_alloc | apply pw_below_drewN | apply below_drew1) | exact HB.out))); (case aF => exact (fun k_ hk => Kd.fresh' (Kd.R_lt (by (with_reducible repeat (first | apply Kd.R_alloc | apply Kd.R_drewN | apply Kd.R_drew)); exact HO_7.out)) k_ hk)); (case aO => exact ((Kd.R_nil _ _ _ _ (fun k_ => some k_ ≠ (.slice (some ad403) x7_1.length co24 : Value).ownBlock)))); (case aS => exact (below_size (by repeat (first | (with_reducible first | exact HB.out | apply below_alloc | apply pw_below_drewN | apply below_drew1) | exact HB.out)))); (case aL => have := LMc19.out; omega); intro v412 w26 ho hb hg hat; rw [← Ny411.out] at ho; replace HB := Aside0.mk (hb); replace HR410 := Aside0.mk ((show Kd.C (Kd.int .i64) w26 (some ad403) y407.length y407 from by rw [Ny407.out]; exact Kd.C_take (m := (x9_2 : Int).toNat) ((Kd.R_reads' (Kd.R_after (Kd.R_apart_nil (by (with_reducible repeat (first | apply Kd.R_alloc | apply Kd.R_drewN | apply Kd.R_drew)); exact HO_7.out)) hg hat)).2.2) KL25.out)); replace HO_7 := Aside0.mk (Kd.R_after (Kd.R_apart_nil (by (with_reducible repeat (first | apply Kd.R_alloc | apply Kd.R_drewN | apply Kd.R_drew)); exact HO_7.out)) hg hat); have HO413 := Aside0.mk (ho); clear ho hb hg hat; have p414 : 0 ≤ (x8_1 : Int) := of_decide_eq_true (by first | (with_reducible assumption) | assumption); have q414 : x8_1 < (l0.length : Int) := of_decide_eq_true (by first | (with_reducible assumption) | assumption); obtain ⟨ad414, e414, hx414_0, hx414_1⟩ := at_T43 HR0.out x8_1 p414 q414; obtain rfl : ad401 = ad414 := (by injection e414); replace hx414_0 := (HB.out.cell (World.block_lt_of_cell? w _ hx414_0)).trans hx414_0; replace hx414_1 := (HB.out.cell (World.block_lt_of_cell? w _ hx414_1)).trans hx414_1; replace p414 := eq_true p414; replace q414 := eq_true q414) | ((with_reducible refine gate_builtin (b := .append) (xs := #[.tmp 64, .tmp 70]) rfl ?_); at_builtin; refine Kd.R_append (Kd.int .i64) (w0 := w) w.heap.size rfl (.tmp 64) (.tmp 70) 32 3 (.int .i64 0) 8 rfl Try.underlying32 info3 rfl (by decide) (by omega) v412 y411 ((rd_T43 l0 x8_1).f0) [.int .i64 ((rd_T43 l0 x8_1).f0)] (fun k_ => some k_ ≠ (.slice (some ad403) x7_1.length co24 : Value).ownBlock) (fun _ => False) rfl rfl ?aP (fun _ hk => hk.elim) ?aF ?aO ?aB ?aS ?aL ?_; (case aP => exact rfl); (case aB => exact (by repeat (first | (with_reducible first | exact HB.out | apply below_alloc | apply pw_below_drewN | apply below_drew1) | exact HB.out))); (case aF => exact (fun k_ hk => Kd.fresh' (Kd.R_lt (by (with_reducible repeat (first | apply Kd.R_alloc | apply Kd.R_drewN | apply Kd.R_drew)); exact HO_7.out)) k_ hk)); (case aO => exact (by (with_reducible repeat (first | apply Kd.R_alloc | apply Kd.R_drewN | apply Kd.R_drew)); exact HO413.out)); (case aS => exact (below_size (by repeat (first | (with_reducible first | exact HB.out | apply below_alloc | apply pw_below_drewN | apply below_drew1) | exact HB.out)))); (case aL => have := LMc20.out; omega); intro v416 w27 ho hb hg hat; rw [← Ny415.out] at ho; replace HB := Aside0.mk (hb); replace HR410 := Aside0.mk ((show Kd.C (Kd.int .i64) w27 (some ad403) y407.length y407 from by rw [Ny407.out]; exact Kd.C_take (m := (x9_2 : Int).toNat) ((Kd.R_reads' (Kd.R_after (ok := (fun _ => True)) (by (with_reducible repeat (first | apply Kd.R_alloc | apply Kd.R_drewN | apply Kd.R_drew)); exact HO_7.out) hg hat)).2.2) KL25.out)); replace HO_7 := Aside0.mk (Kd.R_after (ok := (fun _ => True)) (by (with_reducible repeat (first | apply Kd.R_alloc | apply Kd.R_drewN | apply Kd.R_drew)); exact HO_7.out) hg hat); have HO417 := Aside0.mk (ho); clear HO413; clear ho hb hg hat; have q28 : (x9_2 : Int) ≤ ((x7_1.length : Int) : Int) := of_decide_eq_true (by first | (with_reducible assumption) | assumption); obtain ⟨i028, hi028, _, hsz28, _⟩ := info_parts info3; have hroom28 : x7_1.length ≤ co24 := (Kd.R_reads' HO_7.out).2.1; have hC28 : Kd.C (Kd.int .i64) _ (some ad403) x7_1.length x7_1 := (Kd.R_reads' HO_7.out).2.2; have q028 : (0 : Int) ≤ (x9_2 : Int) := of_decide_eq_true (by first | (with_reducible assumption) | assumption); have hcut28 := cut_from (P := Try.prog) 32 3 .i64 Try.underlying32 hi028 1 hsz28 (some ad403) x7_1.length co24 x9_2 q028 q28; have hr28 := Kd.C_drop (m := (x9_2 : Int).toNat) (c := co24) hC28 (by omega) hroom28; obtain ⟨A28, hA28⟩ : ∃ A1, A1 = (if co24 = (x9_2 : Int).toNat then (some ad403) else ((some ad403) : Option Addr).map (·.add ((x9_2 : Int).toNat * 1))) := ⟨_, rfl⟩; obtain ⟨c28, hc28⟩ : ∃ c1, c1 = co24 - (x9_2 : Int).toNat := ⟨_, rfl⟩; have hy28 : y418.length = x7_1.length - (x9_2 : Int).toNat := (by rw [Ny418.out, List.length_drop] <;> omega); rw [show (x7_1).drop (x9_2 : Int).toNat = y418 from Ny418.out.symm] at hr28; replace hr28 : Kd.C (Kd.int .i64) _ A28 y418.length y418 := (by rw [hA28]; exact hr28); rw [← hy28, ← hA28, ← hc28] at hcut28; have HR421 := Aside0.mk hr28; have HC421 := Aside0.mk (show y418.length ≤ c28 from by rw [hy28, hc28]; exact Nat.sub_le_sub_right hroom28 _); clear hr28 hC28 hroom28 hi028 hsz28 hc28; have KY28 := Aside0.mk hy28; have KA28 := Aside0.mk hA28; clear hy28 hA28; have KL28 := Aside0.mk (show (x9_2 : Int).toNat ≤ x7_1.length from by omega); replace q28 := eq_true q28) | ((with_reducible refine gate_builtin (b := .append) (xs := #[.tmp 72, .tmp 75]) rfl ?_); at_builtin; refine Kd.R_append_rows (Kd.int .i64) (w0 := w) w.heap.size rfl (.tmp 72) (.tmp 75) 32 3 (.int .i64 0) 8 rfl Try.underlying32 info3 rfl (by decide) (by omega) v416 y415 y418 _ _ _ (fun k_ => some k_ ≠ (.slice (some ad403) x7_1.length co24 : Value).ownBlock) (fun _ => False) rfl rfl ?aO ?aR (fun _ _ h => h) (fun _ h => h.elim) ?aF ?aB ?aS ?aL ?_; (case aR => repeat (first | exact (by repeat (first | (with_reducible exact HR421.out) | (with_reducible refine Kd.C_alloc ?_ _) | (with_reducible refine Kd.C_drewN ?_ _) | (with_reducible refine Kd.C_drew ?_) | exact HR421.out)) | (with_reducible refine Kd.C_alloc ?_ _) | (with_reducible refine Kd.C_drewN ?_ _) | (with_reducible refine Kd.C_drew ?_))); (case aB => exact (by repeat (first | (with_reducible first | exact HB.out | apply below_alloc | apply pw_below_drewN | apply below_drew1) | exact HB.out))); (case aF => exact (fun k_ hk => Kd.fresh' (Kd.R_lt (by (with_reducible repeat (first | apply Kd.R_alloc | apply Kd.R_drewN | apply Kd.R_drew)); exact HO_7.out)) k_ hk)); (case aO => exact (by (with_reducible repeat (first | apply Kd.R_alloc | apply Kd.R_drewN | apply Kd.R_drew)); exact HO417.out)); (case aS => exact (below_size (by repeat (first | (with_reducible first | exact HB.out | apply below_alloc | apply pw_below_drewN | apply below_drew1) | exact HB.out)))); (case aL => have := LMc23.out; omega); intro v423 w29 ho hb hg hat; rw [← Ny422.out] at ho; replace HB := Aside0.mk (hb); replace HR410 := Aside0.mk ((show Kd.C (Kd.int .i64) w29 (some ad403) y407.length y407 from by rw [Ny407.out]; exact Kd.C_take (m := (x9_2 : Int).toNat) ((Kd.R_reads' (Kd.R_after (ok := (fun _ => True)) (by (with_reducible repeat (first | apply Kd.R_alloc | apply Kd.R_drewN | apply Kd.R_drew)); exact HO_7.out) hg hat)).2.2) KL25.out)); replace HR421 := Aside0.mk ((show Kd.C (Kd.int .i64) w29 A28 y418.length y418 from by rw [Ny418.out, KA28.out]; exact Kd.C_drop (m := (x9_2 : Int).toNat) (c := co24) ((Kd.R_reads' (Kd.R_after (ok := (fun _ => True)) (by (with_reducible repeat (first | apply Kd.R_alloc | apply Kd.R_drewN | apply Kd.R_drew)); exact HO_7.out) hg hat)).2.2) KL28.out ((Kd.R_reads' (Kd.R_after (ok := (fun _ => True)) (by (with_reducible repeat (first | apply Kd.R_alloc | apply Kd.R_drewN | apply Kd.R_drew)); exact HO_7.out) hg hat)).2.1))); replace HO_7 := Aside0.mk (Kd.R_after (ok := (fun _ => True)) (by (with_reducible repeat (first | apply Kd.R_alloc | apply Kd.R_drewN | apply Kd.R_drew)); exact HO_7.out) hg hat); have HO424 := Aside0.mk (ho); clear HO417; clear ho hb hg hat)); try (go_quiet (first | ((with_reducible refine gate_builtin (b := .append) (xs := #[.tmp 59, .tmp 62]) rfl ?_); at_builtin; refine Kd.R_append_rows (Kd.int .i64) (w0 := w) w.heap.size rfl (.tmp 59) (.tmp 62) 32 3 (.int .i64 0) 8 rfl Try.underlying32 info3 rfl (by decide) (by omega) (.slice none 0 0) ([] : List Int) y407 _ _ _ (fun k_ => some k_ ≠ (.slice (some ad403) x7_1.length co24 : Value).ownBlock) (fun _ => False) rfl rfl ?aO ?aR (fun _ _ h => h) (fun _ h => h.elim) ?aF ?aB ?aS ?aL ?_; (case aR => repeat (first | exact (by repeat (first | (with_reducible exact HR410.out) | (with_reducible refine Kd.C_alloc ?_ _) | (with_reducible refine Kd.C_drewN ?_ _) | (with_reducible refine Kd.C_drew ?_) | exact HR410.out)) | (with_reducible refine Kd.C_alloc ?_ _) | (with_reducible refine Kd.C_drewN ?_ _) | (with_reducible refine Kd.C_drew ?_))); (case aB => exact (by repeat (first | (with_reducible first | exact HB.out | apply below_alloc | apply pw_below_drewN | apply below_drew1) | exact HB.out))); (case aF => exact (fun k_ hk => Kd.fresh' (Kd.R_lt (by (with_reducible repeat (first | apply Kd.R_alloc | apply Kd.R_drewN | apply Kd.R_drew)); exact HO_7.out)) k_ hk)); (case aO => exact ((Kd.R_nil _ _ _ _ (fun k_ => some k_ ≠ (.slice (some ad403) x7_1.length co24 : Value).ownBlock)))); (case aS => exact (below_size (by repeat (first | (with_reducible first | exact HB.out | apply below_alloc | apply pw_below_drewN | apply below_drew1) | exact HB.out)))); (case aL => have := LMc19.out; omega); intro v412 w26 ho hb hg hat; rw [← Ny411.out] at ho; replace HB := Aside0.mk (hb); replace HR410 := Aside0.mk ((show Kd.C (Kd.int .i64) w26 (some ad403) y407.length y407 from by rw [Ny407.out]; exact Kd.C_take (m := (x9_2 : Int).toNat) ((Kd.R_reads' (Kd.R_after (Kd.R_apart_nil (by (with_reducible repeat (first | apply Kd.R_alloc | apply Kd.R_drewN | apply Kd.R_drew)); exact HO_7.out)) hg hat)).2.2) KL25.out)); replace HO_7 := Aside0.mk (Kd.R_after (Kd.R_apart_nil (by (with_reducible repeat (first | apply Kd.R_alloc | apply Kd.R_drewN | apply Kd.R_drew)); exact HO_7.out)) hg hat); have HO413 := Aside0.mk (ho); clear ho hb hg hat; have p414 : 0 ≤ (x8_1 : Int) := of_decide_eq_true (by first | (with_reducible assumption) | assumption); have q414 : x8_1 < (l0.length : Int) := of_decide_eq_true (by first | (with_reducible assumption) | assumption); obtain ⟨ad414, e414, hx414_0, hx414_1⟩ := at_T43 HR0.out x8_1 p414 q414; obtain rfl : ad401 = ad414 := (by injection e414); replace hx414_0 := (HB.out.cell (World.block_lt_of_cell? w _ hx414_0)).trans hx414_0; replace hx414_1 := (HB.out.cell (World.block_lt_of_cell? w _ hx414_1)).trans hx414_1; replace p414 := eq_true p414; replace q414 := eq_true q414) | ((with_reducible refine gate_builtin (b := .append) (xs := #[.tmp 64, .tmp 70]) rfl ?_); at_builtin; refine Kd.R_append (Kd.int .i64) (w0 := w) w.heap.size rfl (.tmp 64) (.tmp 70) 32 3 (.int .i64 0) 8 rfl Try.underlying32 info3 rfl (by decide) (by omega) v412 y411 ((rd_T43 l0 x8_1).f0) [.int .i64 ((rd_T43 l0 x8_1).f0)] (fun k_ => some k_ ≠ (.slice (some ad403) x7_1.length co24 : Value).ownBlock) (fun _ => False) rfl rfl ?aP (fun _ hk => hk.elim) ?aF ?aO ?aB ?aS ?aL ?_; (case aP => exact rfl); (case aB => exact (by repeat (first | (with_reducible first | exact HB.out | apply below_alloc | apply pw_below_drewN | apply below_drew1) | exact HB.out))); (case aF => exact (fun k_ hk => Kd.fresh' (Kd.R_lt (by (with_reducible repeat (first | apply Kd.R_alloc | apply Kd.R_drewN | apply Kd.R_drew)); exact HO_7.out)) k_ hk)); (case aO => exact (by (with_reducible repeat (first | apply Kd.R_alloc | apply Kd.R_drewN | apply Kd.R_drew)); exact HO413.out)); (case aS => exact (below_size (by repeat (first | (with_reducible first | exact HB.out | apply below_alloc | apply pw_below_drewN | apply below_drew1) | exact HB.out)))); (case aL => have := LMc20.out; omega); intro v416 w27 ho hb hg hat; rw [← Ny415.out] at ho; replace HB := Aside0.mk (hb); replace HR410 := Aside0.mk ((show Kd.C (Kd.int .i64) w27 (some ad403) y407.length y407 from by rw [Ny407.out]; exact Kd.C_take (m := (x9_2 : Int).toNat) ((Kd.R_reads' (Kd.R_after (ok := (fun _ => True)) (by (with_reducible repeat (first | apply Kd.R_alloc | apply Kd.R_drewN | apply Kd.R_drew)); exact HO_7.out) hg hat)).2.2) KL25.out)); replace HO_7 := Aside0.mk (Kd.R_after (ok := (fun _ => True)) (by (with_reducible repeat (first | apply Kd.R_alloc | apply Kd.R_drewN | apply Kd.R_drew)); exact HO_7.out) hg hat); have HO417 := Aside0.mk (ho); clear HO413; clear ho hb hg hat; have q28 : (x9_2 : Int) ≤ ((x7_1.length : Int) : Int) := of_decide_eq_true (by first | (with_reducible assumption) | assumption); obtain ⟨i028, hi028, _, hsz28, _⟩ := info_parts info3; have hroom28 : x7_1.length ≤ co24 := (Kd.R_reads' HO_7.out).2.1; have hC28 : Kd.C (Kd.int .i64) _ (some ad403) x7_1.length x7_1 := (Kd.R_reads' HO_7.out).2.2; have q028 : (0 : Int) ≤ (x9_2 : Int) := of_decide_eq_true (by first | (with_reducible assumption) | assumption); have hcut28 := cut_from (P := Try.prog) 32 3 .i64 Try.underlying32 hi028 1 hsz28 (some ad403) x7_1.length co24 x9_2 q028 q28; have hr28 := Kd.C_drop (m := (x9_2 : Int).toNat) (c := co24) hC28 (by omega) hroom28; obtain ⟨A28, hA28⟩ : ∃ A1, A1 = (if co24 = (x9_2 : Int).toNat then (some ad403) else ((some ad403) : Option Addr).map (·.add ((x9_2 : Int).toNat * 1))) := ⟨_, rfl⟩; obtain ⟨c28, hc28⟩ : ∃ c1, c1 = co24 - (x9_2 : Int).toNat := ⟨_, rfl⟩; have hy28 : y418.length = x7_1.length - (x9_2 : Int).toNat := (by rw [Ny418.out, List.length_drop] <;> omega); rw [show (x7_1).drop (x9_2 : Int).toNat = y418 from Ny418.out.symm] at hr28; replace hr28 : Kd.C (Kd.int .i64) _ A28 y418.length y418 := (by rw [hA28]; exact hr28); rw [← hy28, ← hA28, ← hc28] at hcut28; have HR421 := Aside0.mk hr28; have HC421 := Aside0.mk (show y418.length ≤ c28 from by rw [hy28, hc28]; exact Nat.sub_le_sub_right hroom28 _); clear hr28 hC28 hroom28 hi028 hsz28 hc28; have KY28 := Aside0.mk hy28; have KA28 := Aside0.mk hA28; clear hy28 hA28; have KL28 := Aside0.mk (show (x9_2 : Int).toNat ≤ x7_1.length from by omega); replace q28 := eq_true q28) | ((with_reducible refine gate_builtin (b := .append) (xs := #[.tmp 72, .tmp 75]) rfl ?_); at_builtin; refine Kd.R_append_rows (Kd.int .i64) (w0 := w) w.heap.size rfl (.tmp 72) (.tmp 75) 32 3 (.int .i64 0) 8 rfl Try.underlying32 info3 rfl (by decide) (by omega) v416 y415 y418 _ _ _ (fun k_ => some k_ ≠ (.slice (some ad403) x7_1.length co24 : Value).ownBlock) (fun _ => False) rfl rfl ?aO ?aR (fun _ _ h => h) (fun _ h => h.elim) ?aF ?aB ?aS ?aL ?_; (case aR => repeat (first | exact (by repeat (first | (with_reducible exact HR421.out) | (with_reducible refine Kd.C_alloc ?_ _) | (with_reducible refine Kd.C_drewN ?_ _) | (with_reducible refine Kd.C_drew ?_) | exact HR421.out)) | (with_reducible refine Kd.C_alloc ?_ _) | (with_reducible refine Kd.C_drewN ?_ _) | (with_reducible refine Kd.C_drew ?_))); (case aB => exact (by repeat (first | (with_reducible first | exact HB.out | apply below_alloc | apply pw_below_drewN | apply below_drew1) | exact HB.out))); (case aF => exact (fun k_ hk => Kd.fresh' (Kd.R_lt (by (with_reducible repeat (first | apply Kd.R_alloc | apply Kd.R_drewN | apply Kd.R_drew)); exact HO_7.out)) k_ hk)); (case aO => exact (by (with_reducible repeat (first | apply Kd.R_alloc | apply Kd.R_drewN | apply Kd.R_drew)); exact HO417.out)); (case aS => exact (below_size (by repeat (first | (with_reducible first | exact HB.out | apply below_alloc | apply pw_below_drewN | apply below_drew1) | exact HB.out)))); (case aL => have := LMc23.out; omega); intro v423 w29 ho hb hg hat; rw [← Ny422.out] at ho; replace HB := Aside0.mk (hb); replace HR410 := Aside0.mk ((show Kd.C (Kd.int .i64) w29 (some ad403) y407.length y407 from by rw [Ny407.out]; exact Kd.C_take (m := (x9_2 : Int).toNat) ((Kd.R_reads' (Kd.R_after (ok := (fun _ => True)) (by (with_reducible repeat (first | apply Kd.R_alloc | apply Kd.R_drewN | apply Kd.R_drew)); exact HO_7.out) hg hat)).2.2) KL25.out)); replace HR421 := Aside0.mk ((show Kd.C (Kd.int .i64) w29 A28 y418.length y418 from by rw [Ny418.out, KA28.out]; exact Kd.C_drop (m := (x9_2 : Int).toNat) (c := co24) ((Kd.R_reads' (Kd.R_after (ok := (fun _ => True)) (by (with_reducible repeat (first | apply Kd.R_alloc | apply Kd.R_drewN | apply Kd.R_drew)); exact HO_7.out) hg hat)).2.2) KL28.out ((Kd.R_reads' (Kd.R_after (ok := (fun _ => True)) (by (with_reducible repeat (first | apply Kd.R_alloc | apply Kd.R_drewN | apply Kd.R_drew)); exact HO_7.out) hg hat)).2.1))); replace HO_7 := Aside0.mk (Kd.R_after (ok := (fun _ => True)) (by (with_reducible repeat (first | apply Kd.R_alloc | apply Kd.R_drewN | apply Kd.R_drew)); exact HO_7.out) hg hat); have HO424 := Aside0.mk (ho); clear HO417; clear ho hb hg hat))))
                  go_roundg k2
                  case measure => have := HK1.out; have := HK2.out; omega
                  case rel => exact ⟨(y422), (wrap64 (x8_1 + 1)), (by first | rfl | (simp; done) | (simp [*]; done)), H', ⟨by have := HK1.out; have := HK2.out; omega⟩, ⟨by (with_reducible repeat (first | apply Kd.R_alloc | apply Kd.R_drewN | apply Kd.R_drew)); exact Kd.R_mono HO424.out (fun _ hk => trivial)⟩, ⟨by repeat (first | (with_reducible first | exact HB.out | apply below_alloc | apply pw_below_drewN | apply below_drew1) | exact HB.out)⟩⟩
                 ·rw [if_neg c23] at H
                  exact absurd H (by simp)
                ·rw [if_neg c20] at H
                 exact absurd H (by simp)
               ·rw [if_neg c19] at H
                exact absurd H (by simp)
              ·rw [if_neg c18] at H
               exact absurd H (by simp)
           ·rw [if_neg c12] at H
            exact absurd H (by simp)
          ·rw [if_neg c11] at H
           exact absurd H (by simp)
         ·rw [if_neg c10] at H
          exact absurd H (by simp)
        ·rw [if_neg c9] at H
         have c9b0 : decide (x9_2 < (x7_1.length : Int)) = false := decide_eq_false c9
         clear c9
         by_cases c30 : 0 ≤ x9_2
         ·rw [if_pos c30] at H
          have c30b0 := eq_true c30
          have c30b1 : decide (0 ≤ x9_2) = true := decide_eq_true c30
          clear c30
          by_cases c31 : x9_2 ≤ (x7_1.length : Int)
          ·rw [if_pos c31] at H
           have c31b0 := eq_true c31
           have c31b1 : decide (x9_2 ≤ (x7_1.length : Int)) = true := decide_eq_true c31
           clear c31
           obtain ⟨y425, hy425⟩ : ∃ y_ : List Int, y_ = (x7_1.take (x9_2 : Int).toNat) := ⟨_, rfl⟩
           replace H : (if ([] : List Int).length + y425.length < 17592186044416 then ((some (([] : List Int) ++ y425 : List Int)).bind fun y429 => (if 0 ≤ x8_1 then (if x8_1 < (l0.length : Int) then (if y429.length < 17592186044416 then ((some (y429 ++ [(rd_T43 l0 x8_1).f0] : List Int)).bind fun y433 => ((some (x7_1.drop (x9_2 : Int).toNat : List Int)).bind fun y436 => (if y433.length + y436.length < 17592186044416 then (r06_Who.l0 k2 l0 a1 a2 (y433 ++ y436) (wrap64 (x8_1 + 1))) else (none)))) else (none)) else (none)) else (none))) else (none)) = some r := by first | (rw [hy425]; with_reducible exact H) | (have H2_ := (Option.bind_some _ _).symm.trans H; rw [hy425]; with_reducible exact H2_) | (have H2_ := (Option.bind_some _ _).symm.trans H; with_reducible exact H2_) | with_reducible exact H | (rw [hy425]; exact H) | exact H
           have Ny425 := Aside0.mk hy425
           clear hy425
           by_cases c32 : ([] : List Int).length + y425.length < 17592186044416
           ·rw [if_pos c32] at H
            have LMc32 := Aside0.mk c32
            clear c32
            obtain ⟨y429, hy429⟩ : ∃ y_ : List Int, y_ = (([] : List Int) ++ y425) := ⟨_, rfl⟩
            replace H : (if 0 ≤ x8_1 then (if x8_1 < (l0.length : Int) then (if y429.length < 17592186044416 then ((some (y429 ++ [(rd_T43 l0 x8_1).f0] : List Int)).bind fun y433 => ((some (x7_1.drop (x9_2 : Int).toNat : List Int)).bind fun y436 => (if y433.length + y436.length < 17592186044416 then (r06_Who.l0 k2 l0 a1 a2 (y433 ++ y436) (wrap64 (x8_1 + 1))) else (none)))) else (none)) else (none)) else (none)) = some r := by first | (rw [hy429]; with_reducible exact H) | (have H2_ := (Option.bind_some _ _).symm.trans H; rw [hy429]; with_reducible exact H2_) | (have H2_ := (Option.bind_some _ _).symm.trans H; with_reducible exact H2_) | with_reducible exact H | (rw [hy429]; exact H) | exact H
            have Ny429 := Aside0.mk hy429
            clear hy429
            by_cases c33 : 0 ≤ x8_1
            ·rw [if_pos c33] at H
             have c33b0 : decide (0 ≤ x8_1) = true := decide_eq_true c33
             clear c33
             by_cases c34 : x8_1 < (l0.length : Int)
             ·rw [if_pos c34] at H
              have c34b0 : decide (x8_1 < (l0.length : Int)) = true := decide_eq_true c34
              clear c34
              by_cases c35 : y429.length < 17592186044416
              ·rw [if_pos c35] at H
               have LMc35 := Aside0.mk c35
               clear c35
               obtain ⟨y433, hy433⟩ : ∃ y_ : List Int, y_ = (y429 ++ [(rd_T43 l0 x8_1).f0]) := ⟨_, rfl⟩
               replace H : ((some (x7_1.drop (x9_2 : Int).toNat : List Int)).bind fun y436 => (if y433.length + y436.length < 17592186044416 then (r06_Who.l0 k2 l0 a1 a2 (y433 ++ y436) (wrap64 (x8_1 + 1))) else (none))) = some r := by first | (rw [hy433]; with_reducible exact H) | (have H2_ := (Option.bind_some _ _).symm.trans H; rw [hy433]; with_reducible exact H2_) | (have H2_ := (Option.bind_some _ _).symm.trans H; with_reducible exact H2_) | with_reducible exact H | (rw [hy433]; exact H) | exact H
               have Ny433 := Aside0.mk hy433
               clear hy433
               have c36b0 := eq_true (of_decide_eq_true (by first | (with_reducible assumption) | assumption) : 0 ≤ x9_2)
               have c37b0 := eq_true (of_decide_eq_true (by first | (with_reducible assumption) | assumption) : x9_2 ≤ (x7_1.length : Int))
               obtain ⟨y436, hy436⟩ : ∃ y_ : List Int, y_ = (x7_1.drop (x9_2 : Int).toNat) := ⟨_, rfl⟩
               replace H : (if y433.length + y436.length < 17592186044416 then (r06_Who.l0 k2 l0 a1 a2 (y433 ++ y436) (wrap64 (x8_1 + 1))) else (none)) = some r := by first | (rw [hy436]; with_reducible exact H) | (have H2_ := (Option.bind_some _ _).symm.trans H; rw [hy436]; with_reducible exact H2_) | (have H2_ := (Option.bind_some _ _).symm.trans H; with_reducible exact H2_) | with_reducible exact H | (rw [hy436]; exact H) | exact H
               have Ny436 := Aside0.mk hy436
               clear hy436
               by_cases c38 : y433.length + y436.length < 17592186044416
               ·rw [if_pos c38] at H
                have LMc38 := Aside0.mk c38
                clear c38
                obtain ⟨y440, hy440⟩ : ∃ y_ : List Int, y_ = (y433 ++ y436) := ⟨_, rfl⟩
                replace H : (r06_Who.l0 k2 l0 a1 a2 y440 (wrap64 (x8_1 + 1))) = some r := by first | (rw [hy440]; with_reducible exact H) | (have H2_ := (Option.bind_some _ _).symm.trans H; rw [hy440]; with_reducible exact H2_) | (have H2_ := (Option.bind_some _ _).symm.trans H; with_reducible exact H2_) | with_reducible exact H | (rw [hy440]; exact H) | exact H
                have Ny440 := Aside0.mk hy440
                clear hy440
                have H' := Aside0.mk H
                clear H
                obtain ⟨Ao39, co39, eo39⟩ := Kd.R_slice HO_7.out
                subst eo39
                have q40 : (x9_2 : Int) ≤ ((x7_1.length : Int) : Int) := of_decide_eq_true (by first | (with_reducible assumption) | assumption)
                obtain ⟨i040, hi040, _, hsz40, _⟩ := info_parts info3
                have hroom40 : x7_1.length ≤ co39 := (Kd.R_reads' HO_7.out).2.1
                have hC40 : Kd.C (Kd.int .i64) _ Ao39 x7_1.length x7_1 := (Kd.R_reads' HO_7.out).2.2
                have hcut40 := cut_to (P := Try.prog) 32 3 .i64 Try.underlying32 hi040 Ao39 x7_1.length co39 x9_2 (of_decide_eq_true (by first | (with_reducible assumption) | assumption)) q40 hroom40
                have hr40 := Kd.C_take (m := (x9_2 : Int).toNat) hC40 (by omega)
                have hy40 : y425.length = (x9_2 : Int).toNat := (by rw [Ny425.out, List.length_take]; omega)
                rw [← Ny425.out] at hr40
                rw [← hy40] at hcut40
                have HR428 := Aside0.mk hr40
                have HC428 := Aside0.mk (show y425.length ≤ co39 from by omega)
                clear hr40 hC40 hroom40 hi040 hsz40
                have KY40 := Aside0.mk hy40
                clear hy40
                have KL40 := Aside0.mk (show (x9_2 : Int).toNat ≤ x7_1.length from by omega)
                replace q40 := eq_true q40
                iterate 8 (go_wp2_with (first | ((with_reducible refine gate_builtin (b := .append) (xs := #[.tmp 59, .tmp 62]) rfl ?_); at_builtin; refine Kd.R_append_rows (Kd.int .i64) (w0 := w) w.heap.size rfl (.tmp 59) (.tmp 62) 32 3 (.int .i64 0) 8 rfl Try.underlying32 info3 rfl (by decide) (by omega) (.slice none 0 0) ([] : List Int) y425 _ _ _ (fun k_ => some k_ ≠ (.slice Ao39 x7_1.length co39 : Value).ownBlock) (fun _ => False) rfl rfl ?aO ?aR (fun _ _ h => h) (fun _ h => h.elim) ?aF ?aB ?aS ?aL ?_; (case aR => repeat (first | exact (by repeat (first | (with_reducible exact HR428.out) | (with_reducible refine Kd.C_alloc ?_ _) | (with_reducible refine Kd.C_drewN ?_ _) | (with_reducible refine Kd.C_drew ?_) | exact HR428.out)) | (with_reducible refine Kd.C_alloc ?_ _) | (with_reducible refine Kd.C_drewN ?_ _) | (with_reducible refine Kd.C_drew ?_))); (case aB => exact (by repeat (first | (with_reducible first | exact HB.out | apply below_alloc | apply pw_below_drewN | apply below_drew1) | exact HB.out))); (case aF => exact (fun k_ hk => Kd.fresh' (Kd.R_lt (by (with_reducible repeat (first | apply Kd.R_alloc | apply Kd.R_drewN | apply Kd.R_drew)); exact HO_7.out)) k_ hk)); (case aO => exact ((Kd.R_nil _ _ _ _ (fun k_ => some k_ ≠ (.slice Ao39 x7_1.length co39 : Value).ownBlock)))); (case aS => exact (below_size (by repeat (first | (with_reducible first | exact HB.out | apply below_alloc | apply pw_below_drewN | apply below_drew1) | exact HB.out)))); (case aL => have := LMc32.out; omega); intro v430 w41 ho hb hg hat; rw [← Ny429.out] at ho; replace HB := Aside0.mk (hb); replace HR428 := Aside0.mk ((show Kd.C (Kd.int .i64) w41 Ao39 y425.length y425 from by rw [Ny425.out]; exact Kd.C_take (m := (x9_2 : Int).toNat) ((Kd.R_reads' (Kd.R_after (Kd.R_apart_nil (by (with_reducible repeat (first | apply Kd.R_alloc | apply Kd.R_drewN | apply Kd.R_drew)); exact HO_7.out)) hg hat)).2.2) KL40.out)); replace HO_7 := Aside0.mk (Kd.R_after (Kd.R_apart_nil (by (with_reducible repeat (first | apply Kd.R_alloc | apply Kd.R_drewN | apply Kd.R_drew)); exact HO_7.out)) hg hat); have HO431 := Aside0.mk (ho); clear ho hb hg hat; have p432 : 0 ≤ (x8_1 : Int) := of_decide_eq_true (by first | (with_reducible assumption) | assumption); have q432 : x8_1 < (l0.length : Int) := of_decide_eq_true (by first | (with_reducible assumption) | assumption); obtain ⟨ad432, e432, hx432_0, hx432_1⟩ := at_T43 HR0.out x8_1 p432 q432; obtain rfl : ad401 = ad432 := (by injection e432); replace hx432_0 := (HB.out.cell (World.block_lt_of_cell? w _ hx432_0)).trans hx432_0; replace hx432_1 := (HB.out.cell (World.block_lt_of_cell? w _ hx432_1)).trans hx432_1; replace p432 := eq_true p432; replace q432 := eq_true q432) | ((with_reducible refine gate_builtin (b := .append) (xs := #[.tmp 64, .tmp 70]) rfl ?_); at_builtin; refine Kd.R_append (Kd.int .i64) (w0 := w) w.heap.size rfl (.tmp 64) (.tmp 70) 32 3 (.int .i64 0) 8 rfl Try.underlying32 info3 rfl (by decide) (by omega) v430 y429 ((rd_T43 l0 x8_1).f0) [.int .i64 ((rd_T43 l0 x8_1).f0)] (fun k_ => some k_ ≠ (.slice Ao39 x7_1.length co39 : Value).ownBlock) (fun _ => False) rfl rfl ?aP (fun _ hk => hk.elim) ?aF ?aO ?aB ?aS ?aL ?_; (case aP => exact rfl); (case aB => exact (by repeat (first | (with_reducible first | exact HB.out | apply below_alloc | apply pw_below_drewN | apply below_drew1) | exact HB.out))); (case aF => exact (fun k_ hk => Kd.fresh' (Kd.R_lt (by (with_reducible repeat (first | apply Kd.R_alloc | apply Kd.R_drewN | apply Kd.R_drew)); exact HO_7.out)) k_ hk)); (case aO => exact (by (with_reducible repeat (first | apply Kd.R_alloc | apply Kd.R_drewN | apply Kd.R_drew)); exact HO431.out)); (case aS => exact (below_size (by repeat (first | (with_reducible first | exact HB.out | apply below_alloc | apply pw_below_drewN | apply below_drew1) | exact HB.out)))); (case aL => have := LMc35.out; omega); intro v434 w42 ho hb hg hat; rw [← Ny433.out] at ho; replace HB := Aside0.mk (hb); replace HR428 := Aside0.mk ((show Kd.C (Kd.int .i64) w42 Ao39 y425.length y425 from by rw [Ny425.out]; exact Kd.C_take (m := (x9_2 : Int).toNat) ((Kd.R_reads' (Kd.R_after (ok := (fun _ => True)) (by (with_reducible repeat (first | apply Kd.R_alloc | apply Kd.R_drewN | apply Kd.R_drew)); exact HO_7.out) hg hat)).2.2) KL40.out)); replace HO_7 := Aside0.mk (Kd.R_after (ok := (fun _ => True)) (by (with_reducible repeat (first | apply Kd.R_alloc | apply Kd.R_drewN | apply Kd.R_drew)); exact HO_7.out) hg hat); have HO435 := Aside0.mk (ho); clear HO431; clear ho hb hg hat; have q43 : (x9_2 : Int) ≤ ((x7_1.length : Int) : Int) := of_decide_eq_true (by first | (with_reducible assumption) | assumption); obtain ⟨i043, hi043, _, hsz43, _⟩ := info_parts info3; have hroom43 : x7_1.length ≤ co39 := (Kd.R_reads' HO_7.out).2.1; have hC43 : Kd.C (Kd.int .i64) _ Ao39 x7_1.length x7_1 := (Kd.R_reads' HO_7.out).2.2; have q043 : (0 : Int) ≤ (x9_2 : Int) := of_decide_eq_true (by first | (with_reducible assumption) | assumption); have hcut43 := cut_from (P := Try.prog) 32 3 .i64 Try.underlying32 hi043 1 hsz43 Ao39 x7_1.length co39 x9_2 q043 q43; have hr43 := Kd.C_drop (m := (x9_2 : Int).toNat) (c := co39) hC43 (by omega) hroom43; obtain ⟨A43, hA43⟩ : ∃ A1, A1 = (if co39 = (x9_2 : Int).toNat then Ao39 else (Ao39 : Option Addr).map (·.add ((x9_2 : Int).toNat * 1))) := ⟨_, rfl⟩; obtain ⟨c43, hc43⟩ : ∃ c1, c1 = co39 - (x9_2 : Int).toNat := ⟨_, rfl⟩; have hy43 : y436.length = x7_1.length - (x9_2 : Int).toNat := (by rw [Ny436.out, List.length_drop] <;> omega); rw [show (x7_1).drop (x9_2 : Int).toNat = y436 from Ny436.out.symm] at hr43; replace hr43 : Kd.C (Kd.int .i64) _ A43 y436.length y436 := (by rw [hA43]; exact hr43); rw [← hy43, ← hA43, ← hc43] at hcut43; have HR439 := Aside0.mk hr43; have HC439 := Aside0.mk (show y436.length ≤ c43 from by rw [hy43, hc43]; exact Nat.sub_le_sub_right hroom43 _); clear hr43 hC43 hroom43 hi043 hsz43 hc43; have KY43 := Aside0.mk hy43; have KA43 := Aside0.mk hA43; clear hy43 hA43; have KL43 := Aside0.mk (show (x9_2 : Int).toNat ≤ x7_1.length from by omega); replace q43 := eq_true q43) | ((with_reducible refine gate_builtin (b := .append) (xs := #[.tmp 72, .tmp 75]) rfl ?_); at_builtin; refine Kd.R_append_rows (Kd.int .i64) (w0 := w) w.heap.size rfl (.tmp 72) (.tmp 75) 32 3 (.int .i64 0) 8 rfl Try.underlying32 info3 rfl (by decide) (by omega) v434 y433 y436 _ _ _ (fun k_ => some k_ ≠ (.slice Ao39 x7_1.length co39 : Value).ownBlock) (fun _ => False) rfl rfl ?aO ?aR (fun _ _ h => h) (fun _ h => h.elim) ?aF ?aB ?aS ?aL ?_; (case aR => repeat (first | exact (by repeat (first | (with_reducible exact HR439.out) | (with_reducible refine Kd.C_alloc ?_ _) | (with_reducible refine Kd.C_drewN ?_ _) | (with_reducible refine Kd.C_drew ?_) | exact HR439.out)) | (with_reducible refine Kd.C_alloc ?_ _) | (with_reducible refine Kd.C_drewN ?_ _) | (with_reducible refine Kd.C_drew ?_))); (case aB => exact (by repeat (first | (with_reducible first | exact HB.out | apply below_alloc | apply pw_below_drewN | apply below_drew1) | exact HB.out))); (case aF => exact (fun k_ hk => Kd.fresh' (Kd.R_lt (by (with_reducible repeat (first | apply Kd.R_alloc | apply Kd.R_drewN | apply Kd.R_drew)); exact HO_7.out)) k_ hk)); (case aO => exact (by (with_reducible repeat (first | apply Kd.R_alloc | apply Kd.R_drewN | apply Kd.R_drew)); exact HO435.out)); (case aS => exact (below_size (by repeat (first | (with_reducible first | exact HB.out | apply below_alloc | apply pw_below_drewN | apply below_drew1) | exact HB.out)))); (case aL => have := LMc38.out; omega); intro v441 w44 ho hb hg hat; rw [← Ny440.out] at ho; replace HB := Aside0.mk (hb); replace HR428 := Aside0.mk ((show Kd.C (Kd.int .i64) w44 Ao39 y425.length y425 from by rw [Ny425.out]; exact Kd.C_take (m := (x9_2 : Int).toNat) ((Kd.R_reads' (Kd.R_after (ok := (fun _ => True)) (by (with_reducible repeat (first | apply Kd.R_alloc | apply Kd.R_drewN | apply Kd.R_drew)); exact HO_7.out) hg hat)).2.2) KL40.out)); replace HR439 := Aside0.mk ((show Kd.C (Kd.int .i64) w44 A43 y436.length y436 from by rw [Ny436.out, KA43.out]; exact Kd.C_drop (m := (x9_2 : Int).toNat) (c := co39) ((Kd.R_reads' (Kd.R_after (ok := (fun _ => True)) (by (with_reducible repeat (first | apply Kd.R_alloc | apply Kd.R_drewN | apply Kd.R_drew)); exact HO_7.out) hg hat)).2.2) KL43.out ((Kd.R_reads' (Kd.R_after (ok := (fun _ => True)) (by (with_reducible repeat (first | apply Kd.R_alloc | apply Kd.R_drewN | apply Kd.R_drew)); exact HO_7.out) hg hat)).2.1))); replace HO_7 := Aside0.mk (Kd.R_after (ok := (fun _ => True)) (by (with_reducible repeat (first | apply Kd.R_alloc | apply Kd.R_drewN | apply Kd.R_drew)); exact HO_7.out) hg hat); have HO442 := Aside0.mk (ho); clear HO435; clear ho hb hg hat)); try (go_quiet (first | ((with_reducible refine gate_builtin (b := .append) (xs := #[.tmp 59, .tmp 62]) rfl ?_); at_builtin; refine Kd.R_append_rows (Kd.int .i64) (w0 := w) w.heap.size rfl (.tmp 59) (.tmp 62) 32 3 (.int .i64 0) 8 rfl Try.underlying32 info3 rfl (by decide) (by omega) (.slice none 0 0) ([] : List Int) y425 _ _ _ (fun k_ => some k_ ≠ (.slice Ao39 x7_1.length co39 : Value).ownBlock) (fun _ => False) rfl rfl ?aO ?aR (fun _ _ h => h) (fun _ h => h.elim) ?aF ?aB ?aS ?aL ?_; (case aR => repeat (first | exact (by repeat (first | (with_reducible exact HR428.out) | (with_reducible refine Kd.C_alloc ?_ _) | (with_reducible refine Kd.C_drewN ?_ _) | (with_reducible refine Kd.C_drew ?_) | exact HR428.out)) | (with_reducible refine Kd.C_alloc ?_ _) | (with_reducible refine Kd.C_drewN ?_ _) | (with_reducible refine Kd.C_drew ?_))); (case aB => exact (by repeat (first | (with_reducible first | exact HB.out | apply below_alloc | apply pw_below_drewN | apply below_drew1) | exact HB.out))); (case aF => exact (fun k_ hk => Kd.fresh' (Kd.R_lt (by (with_reducible repeat (first | apply Kd.R_alloc | apply Kd.R_drewN | apply Kd.R_drew)); exact HO_7.out)) k_ hk)); (case aO => exact ((Kd.R_nil _ _ _ _ (fun k_ => some k_ ≠ (.slice Ao39 x7_1.length co39 : Value).ownBlock)))); (case aS => exact (below_size (by repeat (first | (with_reducible first | exact HB.out | apply below_alloc | apply pw_below_drewN | apply below_drew1) | exact HB.out)))); (case aL => have := LMc32.out; omega); intro v430 w41 ho hb hg hat; rw [← Ny429.out] at ho; replace HB := Aside0.mk (hb); replace HR428 := Aside0.mk ((show Kd.C (Kd.int .i64) w41 Ao39 y425.length y425 from by rw [Ny425.out]; exact Kd.C_take (m := (x9_2 : Int).toNat) ((Kd.R_reads' (Kd.R_after (Kd.R_apart_nil (by (with_reducible repeat (first | apply Kd.R_alloc | apply Kd.R_drewN | apply Kd.R_drew)); exact HO_7.out)) hg hat)).2.2) KL40.out)); replace HO_7 := Aside0.mk (Kd.R_after (Kd.R_apart_nil (by (with_reducible repeat (first | apply Kd.R_alloc | apply Kd.R_drewN | apply Kd.R_drew)); exact HO_7.out)) hg hat); have HO431 := Aside0.mk (ho); clear ho hb hg hat; have p432 : 0 ≤ (x8_1 : Int) := of_decide_eq_true (by first | (with_reducible assumption) | assumption); have q432 : x8_1 < (l0.length : Int) := of_decide_eq_true (by first | (with_reducible assumption) | assumption); obtain ⟨ad432, e432, hx432_0, hx432_1⟩ := at_T43 HR0.out x8_1 p432 q432; obtain rfl : ad401 = ad432 := (by injection e432); replace hx432_0 := (HB.out.cell (World.block_lt_of_cell? w _ hx432_0)).trans hx432_0; replace hx432_1 := (HB.out.cell (World.block_lt_of_cell? w _ hx432_1)).trans hx432_1; replace p432 := eq_true p432; replace q432 := eq_true q432) | ((with_reducible refine gate_builtin (b := .append) (xs := #[.tmp 64, .tmp 70]) rfl ?_); at_builtin; refine Kd.R_append (Kd.int .i64) (w0 := w) w.heap.size rfl (.tmp 64) (.tmp 70) 32 3 (.int .i64 0) 8 rfl Try.underlying32 info3 rfl (by decide) (by omega) v430 y429 ((rd_T43 l0 x8_1).f0) [.int .i64 ((rd_T43 l0 x8_1).f0)] (fun k_ => some k_ ≠ (.slice Ao39 x7_1.length co39 : Value).ownBlock) (fun _ => False) rfl rfl ?aP (fun _ hk => hk.elim) ?aF ?aO ?aB ?aS ?aL ?_; (case aP => exact rfl); (case aB => exact (by repeat (first | (with_reducible first | exact HB.out | apply below_alloc | apply pw_below_drewN | apply below_drew1) | exact HB.out))); (case aF => exact (fun k_ hk => Kd.fresh' (Kd.R_lt (by (with_reducible repeat (first | apply Kd.R_alloc | apply Kd.R_drewN | apply Kd.R_drew)); exact HO_7.out)) k_ hk)); (case aO => exact (by (with_reducible repeat (first | apply Kd.R_alloc | apply Kd.R_drewN | apply Kd.R_drew)); exact HO431.out)); (case aS => exact (below_size (by repeat (first | (with_reducible first | exact HB.out | apply below_alloc | apply pw_below_drewN | apply below_drew1) | exact HB.out)))); (case aL => have := LMc35.out; omega); intro v434 w42 ho hb hg hat; rw [← Ny433.out] at ho; replace HB := Aside0.mk (hb); replace HR428 := Aside0.mk ((show Kd.C (Kd.int .i64) w42 Ao39 y425.length y425 from by rw [Ny425.out]; exact Kd.C_take (m := (x9_2 : Int).toNat) ((Kd.R_reads' (Kd.R_after (ok := (fun _ => True)) (by (with_reducible repeat (first | apply Kd.R_alloc | apply Kd.R_drewN | apply Kd.R_drew)); exact HO_7.out) hg hat)).2.2) KL40.out)); replace HO_7 := Aside0.mk (Kd.R_after (ok := (fun _ => True)) (by (with_reducible repeat (first | apply Kd.R_alloc | apply Kd.R_drewN | apply Kd.R_drew)); exact HO_7.out) hg hat); have HO435 := Aside0.mk (ho); clear HO431; clear ho hb hg hat; have q43 : (x9_2 : Int) ≤ ((x7_1.length : Int) : Int) := of_decide_eq_true (by first | (with_reducible assumption) | assumption); obtain ⟨i043, hi043, _, hsz43, _⟩ := info_parts info3; have hroom43 : x7_1.length ≤ co39 := (Kd.R_reads' HO_7.out).2.1; have hC43 : Kd.C (Kd.int .i64) _ Ao39 x7_1.length x7_1 := (Kd.R_reads' HO_7.out).2.2; have q043 : (0 : Int) ≤ (x9_2 : Int) := of_decide_eq_true (by first | (with_reducible assumption) | assumption); have hcut43 := cut_from (P := Try.prog) 32 3 .i64 Try.underlying32 hi043 1 hsz43 Ao39 x7_1.length co39 x9_2 q043 q43; have hr43 := Kd.C_drop (m := (x9_2 : Int).toNat) (c := co39) hC43 (by omega) hroom43; obtain ⟨A43, hA43⟩ : ∃ A1, A1 = (if co39 = (x9_2 : Int).toNat then Ao39 else (Ao39 : Option Addr).map (·.add ((x9_2 : Int).toNat * 1))) := ⟨_, rfl⟩; obtain ⟨c43, hc43⟩ : ∃ c1, c1 = co39 - (x9_2 : Int).toNat := ⟨_, rfl⟩; have hy43 : y436.length = x7_1.length - (x9_2 : Int).toNat := (by rw [Ny436.out, List.length_drop] <;> omega); rw [show (x7_1).drop (x9_2 : Int).toNat = y436 from Ny436.out.symm] at hr43; replace hr43 : Kd.C (Kd.int .i64) _ A43 y436.length y436 := (by rw [hA43]; exact hr43); rw [← hy43, ← hA43, ← hc43] at hcut43; have HR439 := Aside0.mk hr43; have HC439 := Aside0.mk (show y436.length ≤ c43 from by rw [hy43, hc43]; exact Nat.sub_le_sub_right hroom43 _); clear hr43 hC43 hroom43 hi043 hsz43 hc43; have KY43 := Aside0.mk hy43; have KA43 := Aside0.mk hA43; clear hy43 hA43; have KL43 := Aside0.mk (show (x9_2 : Int).toNat ≤ x7_1.length from by omega); replace q43 := eq_true q43) | ((with_reducible refine gate_builtin (b := .append) (xs := #[.tmp 72, .tmp 75]) rfl ?_); at_builtin; refine Kd.R_append_rows (Kd.int .i64) (w0 := w) w.heap.size rfl (.tmp 72) (.tmp 75) 32 3 (.int .i64 0) 8 rfl Try.underlying32 info3 rfl (by decide) (by omega) v434 y433 y436 _ _ _ (fun k_ => some k_ ≠ (.slice Ao39 x7_1.length co39 : Value).ownBlock) (fun _ => False) rfl rfl ?aO ?aR (fun _ _ h => h) (fun _ h => h.elim) ?aF ?aB ?aS ?aL ?_; (case aR => repeat (first | exact (by repeat (first | (with_reducible exact HR439.out) | (with_reducible refine Kd.C_alloc ?_ _) | (with_reducible refine Kd.C_drewN ?_ _) | (with_reducible refine Kd.C_drew ?_) | exact HR439.out)) | (with_reducible refine Kd.C_alloc ?_ _) | (with_reducible refine Kd.C_drewN ?_ _) | (with_reducible refine Kd.C_drew ?_))); (case aB => exact (by repeat (first | (with_reducible first | exact HB.out | apply below_alloc | apply pw_below_drewN | apply below_drew1) | exact HB.out))); (case aF => exact (fun k_ hk => Kd.fresh' (Kd.R_lt (by (with_reducible repeat (first | apply Kd.R_alloc | apply Kd.R_drewN | apply Kd.R_drew)); exact HO_7.out)) k_ hk)); (case aO => exact (by (with_reducible repeat (first | apply Kd.R_alloc | apply Kd.R_drewN | apply Kd.R_drew)); exact HO435.out)); (case aS => exact (below_size (by repeat (first | (with_reducible first | exact HB.out | apply below_alloc | apply pw_below_drewN | apply below_drew1) | exact HB.out)))); (case aL => have := LMc38.out; omega); intro v441 w44 ho hb hg hat; rw [← Ny440.out] at ho; replace HB := Aside0.mk (hb); replace HR428 := Aside0.mk ((show Kd.C (Kd.int .i64) w44 Ao39 y425.length y425 from by rw [Ny425.out]; exact Kd.C_take (m := (x9_2 : Int).toNat) ((Kd.R_reads' (Kd.R_after (ok := (fun _ => True)) (by (with_reducible repeat (first | apply Kd.R_alloc | apply Kd.R_drewN | apply Kd.R_drew)); exact HO_7.out) hg hat)).2.2) KL40.out)); replace HR439 := Aside0.mk ((show Kd.C (Kd.int .i64) w44 A43 y436.length y436 from by rw [Ny436.out, KA43.out]; exact Kd.C_drop (m := (x9_2 : Int).toNat) (c := co39) ((Kd.R_reads' (Kd.R_after (ok := (fun _ => True)) (by (with_reducible repeat (first | apply Kd.R_alloc | apply Kd.R_drewN | apply Kd.R_drew)); exact HO_7.out) hg hat)).2.2) KL43.out ((Kd.R_reads' (Kd.R_after (ok := (fun _ => True)) (by (with_reducible repeat (first | apply Kd.R_alloc | apply Kd.R_drewN | apply Kd.R_drew)); exact HO_7.out) hg hat)).2.1))); replace HO_7 := Aside0.mk (Kd.R_after (ok := (fun _ => True)) (by (with_reducible repeat (first | apply Kd.R_alloc | apply Kd.R_drewN | apply Kd.R_drew)); exact HO_7.out) hg hat); have HO442 := Aside0.mk (ho); clear HO435; clear ho hb hg hat))))
                go_roundg k2
                case measure => have := HK1.out; have := HK2.out; omega
                case rel => exact ⟨(y440), (wrap64 (x8_1 + 1)), (by first | rfl | (simp; done) | (simp [*]; done)), H', ⟨by have := HK1.out; have := HK2.out; omega⟩, ⟨by (with_reducible repeat (first | apply Kd.R_alloc | apply Kd.R_drewN | apply Kd.R_drew)); exact Kd.R_mono HO442.out (fun _ hk => trivial)⟩, ⟨by repeat (first | (with_reducible first | exact HB.out | apply below_alloc | apply pw_below_drewN | apply below_drew1) | exact HB.out)⟩⟩
               ·rw [if_neg c38] at H
                exact absurd H (by simp)
              ·rw [if_neg c35] at H
               exact absurd H (by simp)
             ·rw [if_neg c34] at H
              exact absurd H (by simp)
            ·rw [if_neg c33] at H
             exact absurd H (by simp)
           ·rw [if_neg c32] at H
            exact absurd H (by simp)
          ·rw [if_neg c31] at H
           exact absurd H (by simp)
         ·rw [if_neg c30] at H
          exact absurd H (by simp)
     ·replace c7 := Bool.eq_false_iff.mpr c7
      subst c7
      have H1 : (r06_Who.l0 k1 l0 a1 a2 x7_1 (wrap64 (x8_1 + 1))) = some r := by rw [if_neg (show ¬ (false = true) by decide)] at H; exact H
      clear H
      have H := H1
      clear H1
      have H' := Aside0.mk H
      clear H
      have p401 : 0 ≤ (x8_1 : Int) := of_decide_eq_true (by first | (with_reducible assumption) | assumption)
      have q401 : x8_1 < (l0.length : Int) := of_decide_eq_true (by first | (with_reducible assumption) | assumption)
      obtain ⟨ad401, e401, hx401_0, hx401_1⟩ := at_T43 HR0.out x8_1 p401 q401
      cases e401
      replace hx401_0 := (HB.out.cell (World.block_lt_of_cell? w _ hx401_0)).trans hx401_0
      replace hx401_1 := (HB.out.cell (World.block_lt_of_cell? w _ hx401_1)).trans hx401_1
      replace p401 := eq_true p401
      replace q401 := eq_true q401
      iterate 8 (go_wp2_with (first | (go_at_call 35; (with_reducible refine (r06_alive.calls ((rd_T43 l0 x8_1).f0) ((rd_T43 l0 x8_1).f1) a1 a2 false _ A6.out).mono ?_); rintro e w45 ⟨rfl, hb⟩; replace HO_7 := Aside0.mk (Kd.R_below (by (with_reducible repeat (first | apply Kd.R_alloc | apply Kd.R_drewN | apply Kd.R_drew)); exact HO_7.out) hb); replace HB := Aside0.mk (below_step (by repeat (first | (with_reducible first | exact HB.out | apply below_alloc | apply pw_below_drewN | apply below_drew1) | exact HB.out)) hb); (try clear hb); (try clear hb2); (try clear hk); (try clear hi))); try (go_quiet (first | (go_at_call 35; (with_reducible refine (r06_alive.calls ((rd_T43 l0 x8_1).f0) ((rd_T43 l0 x8_1).f1) a1 a2 false _ A6.out).mono ?_); rintro e w45 ⟨rfl, hb⟩; replace HO_7 := Aside0.mk (Kd.R_below (by (with_reducible repeat (first | apply Kd.R_alloc | apply Kd.R_drewN | apply Kd.R_drew)); exact HO_7.out) hb); replace HB := Aside0.mk (below_step (by repeat (first | (with_reducible first | exact HB.out | apply below_alloc | apply pw_below_drewN | apply below_drew1) | exact HB.out)) hb); (try clear hb); (try clear hb2); (try clear hk); (try clear hi)))))
      go_roundg k1
      case measure => have := HK1.out; omega
      case rel => exact ⟨(x7_1), (wrap64 (x8_1 + 1)), (by first | rfl | (simp; done) | (simp [*]; done)), H', ⟨by have := HK1.out; omega⟩, ⟨by (with_reducible repeat (first | apply Kd.R_alloc | apply Kd.R_drewN | apply Kd.R_drew)); exact HO_7.out⟩, ⟨by repeat (first | (with_reducible first | exact HB.out | apply below_alloc | apply pw_below_drewN | apply below_drew1) | exact HB.out)⟩⟩
    ·rw [if_neg c5] at H
     exact absurd H (by simp)
   ·rw [if_neg c4] at H
    have c4b0 : decide (x8_1 < (l0.length : Int)) = false := decide_eq_false c4
    clear c4
    obtain rfl := Option.some.inj H
    go_wp2
    repeat (go_quiet (fail); try go_wp2)
    go_ret
    exact ⟨_, by first | rfl | (simp [errW_none, errW_some] <;> rfl) | (simp [*, errW_none, errW_some] <;> rfl), by (with_reducible repeat (first | apply Kd.R_alloc | apply Kd.R_drewN | apply Kd.R_drew)); exact HO_7.out, by repeat (first | (with_reducible first | exact HB.out | apply below_alloc | apply pw_below_drewN | apply below_drew1) | exact HB.out)⟩
def r06_Count.f (k : Nat) (l0 : List (S43)) (a1 a2 : Int) : Option (Int) := (r06_Who.f k l0 a1 a2).bind fun t401 => (some (t401.length : Int))
set_option maxHeartbeats 8000000 in
set_option maxRecDepth 100000 in
theorem r06_Count.calls (k : Nat) (A0 : Option Addr) (c0 : Nat) (l0 : List (S43)) (a1 a2 r : Int) (w : World) (hr0 : Kd.C k43 w A0 l0.length l0) (hc0 : l0.length ≤ c0) (h : r06_Count.f k l0 a1 a2 = some r) :
  Calls Try.prog 27 #[.slice A0 l0.length c0, .int .i64 a1, .int .i64 a2] w fun e w' => e = .returned (.int .i64 r) ∧ Below w.heap.size w w' := by
 have HR0 := Aside0.mk hr0
 have HC0 := Aside0.mk hc0
 clear hr0 hc0
 have HB := Aside0.mk (Below.refl w.heap.size w)
 have H : ((r06_Who.f k l0 a1 a2).bind fun t401 => (some (t401.length : Int))) = some r := h
 clear h
 replace H := Option.bind_eq_some_iff.mp H
 obtain ⟨t401, A40, H⟩ := H
 replace H : (some (t401.length : Int)) = some r := H
 have A4 := Aside0.mk A40
 clear A40
 obtain rfl := Option.some.inj H
 go_enter Try.func27, Try.ntmps27
 go_wp2_with (first | ((with_reducible refine gate_callee (f := 31) rfl ?_); refine goesL_ (some 10) rfl rfl Try.func31 (by kernel_rfl) rfl #[.slice A0 l0.length c0, .int .i64 a1, .int .i64 a2] rfl (by (try simp only [List.map_toArray, List.map_cons, List.map_nil]); first | done | rfl | (simp only [List.length_drop, List.length_take]; rfl)) ?_; (with_reducible refine (r06_Who.calls k _ _ l0 a1 a2 t401 _ ?side1 ?side2 A4.out).mono ?_); (case side1 => repeat (first | exact HR0.out | (with_reducible refine Kd.C_alloc ?_ _) | (with_reducible refine Kd.C_drewN ?_ _) | (with_reducible refine Kd.C_drew ?_))); (case side2 => exact HC0.out); rintro e w5 ⟨v402, rfl, ho0, hb⟩; refine ⟨_, rfl, ?_⟩; have q0_ := below_of hb (by repeat (first | (with_reducible first | exact HB.out | apply below_alloc | apply pw_below_drewN | apply below_drew1) | exact HB.out)); have HO403 := Aside0.mk (Kd.R_lower ho0 (below_size q0_)); replace HB := Aside0.mk (below_step q0_ hb); clear q0_; (try clear hb); (try clear hb2); (try clear hk); (try clear hi); (try clear ho0); obtain ⟨Ao6, co6, eo6⟩ := Kd.R_slice HO403.out; subst eo6))
 go_ret
 exact ⟨by first | rfl | (simp [errW_none, errW_some] <;> rfl) | (simp [*, errW_none, errW_some] <;> rfl), by repeat (first | (with_reducible first | exact HB.out | apply below_alloc | apply pw_below_drewN | apply below_drew1) | exact HB.out)⟩
end Go.Proofs.Ytbedfoeifaegmaa.Gn
