import Derived.Test.YtdcknaoamjlaiaaZRosterAsksGn0
import Derived.Test.YtdcknaoamjlaiaaZRosterAsksGn2
import Derived.Test.YtdcknaoamjlaiaaZRosterAsksGn3
namespace Go.Proofs.Ytdcknaoamjlaiaa.Gn
open Go.RowKit Go.Proofs.YtdcknaoamjlaiaaW.PrintWords Go.Proofs.YtdcknaoamjlaiaaW.PrintLast Go.Proofs.YtdcknaoamjlaiaaW.PrintMore
attribute [local go_sem] max2_int min2_int max_two min_two max_three min_three max_four min_four   -- for this text's walks alone
set_option linter.unusedVariables false
set_option linter.unusedSimpArgs false
def bellwetherlaw25_known.f (k : Nat)  : Option (Bool) := (roster_Blank.f k 4 0 0 0 0 0 0 0 0 0 ([] : List Int)).bind fun t123 => (if t123.toList = ([48, 48, 48, 48] : List UInt8) then ((roster_Mark.f k 4 0 0 0 0 0 0 0 0 0 ([] : List Int) (⟨#[48, 49]⟩ : ByteArray) (([3] : List Int))).bind fun t127 => (if t127.toList = ([48, 49, 48, 49] : List UInt8) then ((roster_Has.f (⟨#[48, 49]⟩ : ByteArray) 1).bind fun t128 => (if t128 = true then ((roster_Has.f (⟨#[48, 49]⟩ : ByteArray) 2).bind fun t129 => (if t129 = true then (none) else ((roster_Count.f (⟨#[48, 120, 49, 49]⟩ : ByteArray)).bind fun t130 => (if t130 = 2 then ((roster_Nodes.f (⟨#[48, 49, 48, 49]⟩ : ByteArray)).bind fun t131 => ((bellwetherref06_Ints.f k t131 (([1, 3] : List Int))).bind fun t137 => (if t137 = true then ((roster_Lacks.f k 4 0 0 0 0 0 0 0 0 0 ([] : List Int) (⟨#[48, 49, 48, 49]⟩ : ByteArray)).bind fun t138 => ((bellwetherref06_Ints.f k t138 (([0, 2] : List Int))).bind fun t144 => (if t144 = true then ((roster_Both.f k 4 0 0 0 0 0 0 0 0 0 ([] : List Int) (⟨#[48, 49, 49]⟩ : ByteArray) (⟨#[49, 49, 48]⟩ : ByteArray)).bind fun t145 => (some (t145.toList == ([48, 49, 48, 48] : List UInt8)))) else (none)))) else (none)))) else (none))))) else (none))) else (none))) else (none))
theorem bellwetherlaw25_known.mono : ∀ k, LeO (bellwetherlaw25_known.f k ) (bellwetherlaw25_known.f (k + 1) ) := by
  intro  k
  unfold bellwetherlaw25_known.f
  repeat' first
      | (with_reducible exact bellwetherref06_Ints.mono _ _ _)
      | (with_reducible exact roster_Blank.mono _ _ _ _ _ _ _ _ _ _ _ _)
      | (with_reducible exact roster_Both.mono _ _ _ _ _ _ _ _ _ _ _ _ _ _)
      | (with_reducible exact roster_Lacks.mono _ _ _ _ _ _ _ _ _ _ _ _ _)
      | (with_reducible exact roster_Mark.mono _ _ _ _ _ _ _ _ _ _ _ _ _ _)
      | (with_reducible exact LeO.refl _)
      | (with_reducible exact LeO.none _)
      | (with_reducible refine LeO.ite ?_ ?_)
      | (with_reducible refine LeO.bind ?_ (fun _ => ?_))
      | exact bellwetherref06_Ints.mono _ _ _
      | exact roster_Blank.mono _ _ _ _ _ _ _ _ _ _ _ _
      | exact roster_Both.mono _ _ _ _ _ _ _ _ _ _ _ _ _ _
      | exact roster_Lacks.mono _ _ _ _ _ _ _ _ _ _ _ _ _
      | exact roster_Mark.mono _ _ _ _ _ _ _ _ _ _ _ _ _ _
      | exact LeO.none _
      | refine LeO.ite ?_ ?_
      | refine LeO.bind ?_ (fun _ => ?_)
set_option maxHeartbeats 8000000 in
set_option maxRecDepth 100000 in
theorem bellwetherlaw25_known.calls (k : Nat)  (r : Bool) (w : World) (h : bellwetherlaw25_known.f k  = some r) :
    Calls Try.prog 18 #[] w fun e w' => e = .returned (.bool r) ∧ Below w.heap.size w w' := by
  have hu24 := Try.underlying24
  have HB := Aside0.mk (Below.refl w.heap.size w)
  have H : ((roster_Blank.f k 4 0 0 0 0 0 0 0 0 0 ([] : List Int)).bind fun t123 => (if t123.toList = ([48, 48, 48, 48] : List UInt8) then ((roster_Mark.f k 4 0 0 0 0 0 0 0 0 0 ([] : List Int) (⟨#[48, 49]⟩ : ByteArray) (([3] : List Int))).bind fun t127 => (if t127.toList = ([48, 49, 48, 49] : List UInt8) then ((roster_Has.f (⟨#[48, 49]⟩ : ByteArray) 1).bind fun t128 => (if t128 = true then ((roster_Has.f (⟨#[48, 49]⟩ : ByteArray) 2).bind fun t129 => (if t129 = true then (none) else ((roster_Count.f (⟨#[48, 120, 49, 49]⟩ : ByteArray)).bind fun t130 => (if t130 = 2 then ((roster_Nodes.f (⟨#[48, 49, 48, 49]⟩ : ByteArray)).bind fun t131 => ((bellwetherref06_Ints.f k t131 (([1, 3] : List Int))).bind fun t137 => (if t137 = true then ((roster_Lacks.f k 4 0 0 0 0 0 0 0 0 0 ([] : List Int) (⟨#[48, 49, 48, 49]⟩ : ByteArray)).bind fun t138 => ((bellwetherref06_Ints.f k t138 (([0, 2] : List Int))).bind fun t144 => (if t144 = true then ((roster_Both.f k 4 0 0 0 0 0 0 0 0 0 ([] : List Int) (⟨#[48, 49, 49]⟩ : ByteArray) (⟨#[49, 49, 48]⟩ : ByteArray)).bind fun t145 => (some (t145.toList == ([48, 49, 48, 48] : List UInt8)))) else (none)))) else (none)))) else (none))))) else (none))) else (none))) else (none))) = some r := h
  clear h
  replace H := Option.bind_eq_some_iff.mp H
  obtain ⟨t123, A10, H⟩ := H
  replace H : (if t123.toList = ([48, 48, 48, 48] : List UInt8) then ((roster_Mark.f k 4 0 0 0 0 0 0 0 0 0 ([] : List Int) (⟨#[48, 49]⟩ : ByteArray) (([3] : List Int))).bind fun t127 => (if t127.toList = ([48, 49, 48, 49] : List UInt8) then ((roster_Has.f (⟨#[48, 49]⟩ : ByteArray) 1).bind fun t128 => (if t128 = true then ((roster_Has.f (⟨#[48, 49]⟩ : ByteArray) 2).bind fun t129 => (if t129 = true then (none) else ((roster_Count.f (⟨#[48, 120, 49, 49]⟩ : ByteArray)).bind fun t130 => (if t130 = 2 then ((roster_Nodes.f (⟨#[48, 49, 48, 49]⟩ : ByteArray)).bind fun t131 => ((bellwetherref06_Ints.f k t131 (([1, 3] : List Int))).bind fun t137 => (if t137 = true then ((roster_Lacks.f k 4 0 0 0 0 0 0 0 0 0 ([] : List Int) (⟨#[48, 49, 48, 49]⟩ : ByteArray)).bind fun t138 => ((bellwetherref06_Ints.f k t138 (([0, 2] : List Int))).bind fun t144 => (if t144 = true then ((roster_Both.f k 4 0 0 0 0 0 0 0 0 0 ([] : List Int) (⟨#[48, 49, 49]⟩ : ByteArray) (⟨#[49, 49, 48]⟩ : ByteArray)).bind fun t145 => (some (t145.toList == ([48, 49, 48, 48] : List UInt8)))) else (none)))) else (none)))) else (none))))) else (none))) else (none))) else (none)) = some r := H
  have A1 := Aside0.mk A10
  clear A10
  by_cases c2 : t123.toList = ([48, 48, 48, 48] : List UInt8)
  · rw [if_pos c2] at H
    have c2b0 : (t123.toList == ([48, 48, 48, 48] : List UInt8)) = true := beq_iff_eq.mpr c2
    have c2b1 : (t123.toList != ([48, 48, 48, 48] : List UInt8)) = false := bne_eq_false_iff_eq.mpr c2
    clear c2
    obtain ⟨y124, hy124⟩ : ∃ y_ : List Int, y_ = (([3] : List Int)) := ⟨_, rfl⟩
    replace H : ((roster_Mark.f k 4 0 0 0 0 0 0 0 0 0 ([] : List Int) (⟨#[48, 49]⟩ : ByteArray) y124).bind fun t127 => (if t127.toList = ([48, 49, 48, 49] : List UInt8) then ((roster_Has.f (⟨#[48, 49]⟩ : ByteArray) 1).bind fun t128 => (if t128 = true then ((roster_Has.f (⟨#[48, 49]⟩ : ByteArray) 2).bind fun t129 => (if t129 = true then (none) else ((roster_Count.f (⟨#[48, 120, 49, 49]⟩ : ByteArray)).bind fun t130 => (if t130 = 2 then ((roster_Nodes.f (⟨#[48, 49, 48, 49]⟩ : ByteArray)).bind fun t131 => ((bellwetherref06_Ints.f k t131 (([1, 3] : List Int))).bind fun t137 => (if t137 = true then ((roster_Lacks.f k 4 0 0 0 0 0 0 0 0 0 ([] : List Int) (⟨#[48, 49, 48, 49]⟩ : ByteArray)).bind fun t138 => ((bellwetherref06_Ints.f k t138 (([0, 2] : List Int))).bind fun t144 => (if t144 = true then ((roster_Both.f k 4 0 0 0 0 0 0 0 0 0 ([] : List Int) (⟨#[48, 49, 49]⟩ : ByteArray) (⟨#[49, 49, 48]⟩ : ByteArray)).bind fun t145 => (some (t145.toList == ([48, 49, 48, 48] : List UInt8)))) else (none)))) else (none)))) else (none))))) else (none))) else (none))) = some r := by first | (rw [hy124]; with_reducible exact H) | (have H2_ := (Option.bind_some _ _).symm.trans H; rw [hy124]; with_reducible exact H2_) | (have H2_ := (Option.bind_some _ _).symm.trans H; with_reducible exact H2_) | with_reducible exact H | (rw [hy124]; exact H) | exact H
    have Ny124 := Aside0.mk hy124
    clear hy124
    replace H := Option.bind_eq_some_iff.mp H
    obtain ⟨t127, A30, H⟩ := H
    replace H : (if t127.toList = ([48, 49, 48, 49] : List UInt8) then ((roster_Has.f (⟨#[48, 49]⟩ : ByteArray) 1).bind fun t128 => (if t128 = true then ((roster_Has.f (⟨#[48, 49]⟩ : ByteArray) 2).bind fun t129 => (if t129 = true then (none) else ((roster_Count.f (⟨#[48, 120, 49, 49]⟩ : ByteArray)).bind fun t130 => (if t130 = 2 then ((roster_Nodes.f (⟨#[48, 49, 48, 49]⟩ : ByteArray)).bind fun t131 => ((bellwetherref06_Ints.f k t131 (([1, 3] : List Int))).bind fun t137 => (if t137 = true then ((roster_Lacks.f k 4 0 0 0 0 0 0 0 0 0 ([] : List Int) (⟨#[48, 49, 48, 49]⟩ : ByteArray)).bind fun t138 => ((bellwetherref06_Ints.f k t138 (([0, 2] : List Int))).bind fun t144 => (if t144 = true then ((roster_Both.f k 4 0 0 0 0 0 0 0 0 0 ([] : List Int) (⟨#[48, 49, 49]⟩ : ByteArray) (⟨#[49, 49, 48]⟩ : ByteArray)).bind fun t145 => (some (t145.toList == ([48, 49, 48, 48] : List UInt8)))) else (none)))) else (none)))) else (none))))) else (none))) else (none)) = some r := H
    have A3 := Aside0.mk A30
    clear A30
    by_cases c4 : t127.toList = ([48, 49, 48, 49] : List UInt8)
    · rw [if_pos c4] at H
      have c4b0 : (t127.toList == ([48, 49, 48, 49] : List UInt8)) = true := beq_iff_eq.mpr c4
      have c4b1 : (t127.toList != ([48, 49, 48, 49] : List UInt8)) = false := bne_eq_false_iff_eq.mpr c4
      clear c4
      replace H := Option.bind_eq_some_iff.mp H
      obtain ⟨t128, A50, H⟩ := H
      replace H : (if t128 = true then ((roster_Has.f (⟨#[48, 49]⟩ : ByteArray) 2).bind fun t129 => (if t129 = true then (none) else ((roster_Count.f (⟨#[48, 120, 49, 49]⟩ : ByteArray)).bind fun t130 => (if t130 = 2 then ((roster_Nodes.f (⟨#[48, 49, 48, 49]⟩ : ByteArray)).bind fun t131 => ((bellwetherref06_Ints.f k t131 (([1, 3] : List Int))).bind fun t137 => (if t137 = true then ((roster_Lacks.f k 4 0 0 0 0 0 0 0 0 0 ([] : List Int) (⟨#[48, 49, 48, 49]⟩ : ByteArray)).bind fun t138 => ((bellwetherref06_Ints.f k t138 (([0, 2] : List Int))).bind fun t144 => (if t144 = true then ((roster_Both.f k 4 0 0 0 0 0 0 0 0 0 ([] : List Int) (⟨#[48, 49, 49]⟩ : ByteArray) (⟨#[49, 49, 48]⟩ : ByteArray)).bind fun t145 => (some (t145.toList == ([48, 49, 48, 48] : List UInt8)))) else (none)))) else (none)))) else (none))))) else (none)) = some r := H
      have A5 := Aside0.mk A50
      clear A50
      by_cases c6 : t128 = true
      · subst c6
        have H1 : ((roster_Has.f (⟨#[48, 49]⟩ : ByteArray) 2).bind fun t129 => (if t129 = true then (none) else ((roster_Count.f (⟨#[48, 120, 49, 49]⟩ : ByteArray)).bind fun t130 => (if t130 = 2 then ((roster_Nodes.f (⟨#[48, 49, 48, 49]⟩ : ByteArray)).bind fun t131 => ((bellwetherref06_Ints.f k t131 (([1, 3] : List Int))).bind fun t137 => (if t137 = true then ((roster_Lacks.f k 4 0 0 0 0 0 0 0 0 0 ([] : List Int) (⟨#[48, 49, 48, 49]⟩ : ByteArray)).bind fun t138 => ((bellwetherref06_Ints.f k t138 (([0, 2] : List Int))).bind fun t144 => (if t144 = true then ((roster_Both.f k 4 0 0 0 0 0 0 0 0 0 ([] : List Int) (⟨#[48, 49, 49]⟩ : ByteArray) (⟨#[49, 49, 48]⟩ : ByteArray)).bind fun t145 => (some (t145.toList == ([48, 49, 48, 48] : List UInt8)))) else (none)))) else (none)))) else (none))))) = some r := by rw [if_pos rfl] at H; exact H
        clear H
        have H := H1
        clear H1
        replace H := Option.bind_eq_some_iff.mp H
        obtain ⟨t129, A70, H⟩ := H
        replace H : (if t129 = true then (none) else ((roster_Count.f (⟨#[48, 120, 49, 49]⟩ : ByteArray)).bind fun t130 => (if t130 = 2 then ((roster_Nodes.f (⟨#[48, 49, 48, 49]⟩ : ByteArray)).bind fun t131 => ((bellwetherref06_Ints.f k t131 (([1, 3] : List Int))).bind fun t137 => (if t137 = true then ((roster_Lacks.f k 4 0 0 0 0 0 0 0 0 0 ([] : List Int) (⟨#[48, 49, 48, 49]⟩ : ByteArray)).bind fun t138 => ((bellwetherref06_Ints.f k t138 (([0, 2] : List Int))).bind fun t144 => (if t144 = true then ((roster_Both.f k 4 0 0 0 0 0 0 0 0 0 ([] : List Int) (⟨#[48, 49, 49]⟩ : ByteArray) (⟨#[49, 49, 48]⟩ : ByteArray)).bind fun t145 => (some (t145.toList == ([48, 49, 48, 48] : List UInt8)))) else (none)))) else (none)))) else (none)))) = some r := H
        have A7 := Aside0.mk A70
        clear A70
        by_cases c8 : t129 = true
        · subst c8
          have H1 : (none) = some r := by rw [if_pos rfl] at H; exact H
          clear H
          have H := H1
          clear H1
          exact absurd H (by simp)
        · replace c8 := Bool.eq_false_iff.mpr c8
          subst c8
          have H1 : ((roster_Count.f (⟨#[48, 120, 49, 49]⟩ : ByteArray)).bind fun t130 => (if t130 = 2 then ((roster_Nodes.f (⟨#[48, 49, 48, 49]⟩ : ByteArray)).bind fun t131 => ((bellwetherref06_Ints.f k t131 (([1, 3] : List Int))).bind fun t137 => (if t137 = true then ((roster_Lacks.f k 4 0 0 0 0 0 0 0 0 0 ([] : List Int) (⟨#[48, 49, 48, 49]⟩ : ByteArray)).bind fun t138 => ((bellwetherref06_Ints.f k t138 (([0, 2] : List Int))).bind fun t144 => (if t144 = true then ((roster_Both.f k 4 0 0 0 0 0 0 0 0 0 ([] : List Int) (⟨#[48, 49, 49]⟩ : ByteArray) (⟨#[49, 49, 48]⟩ : ByteArray)).bind fun t145 => (some (t145.toList == ([48, 49, 48, 48] : List UInt8)))) else (none)))) else (none)))) else (none))) = some r := by rw [if_neg (show ¬ (false = true) by decide)] at H; exact H
          clear H
          have H := H1
          clear H1
          replace H := Option.bind_eq_some_iff.mp H
          obtain ⟨t130, A90, H⟩ := H
          replace H : (if t130 = 2 then ((roster_Nodes.f (⟨#[48, 49, 48, 49]⟩ : ByteArray)).bind fun t131 => ((bellwetherref06_Ints.f k t131 (([1, 3] : List Int))).bind fun t137 => (if t137 = true then ((roster_Lacks.f k 4 0 0 0 0 0 0 0 0 0 ([] : List Int) (⟨#[48, 49, 48, 49]⟩ : ByteArray)).bind fun t138 => ((bellwetherref06_Ints.f k t138 (([0, 2] : List Int))).bind fun t144 => (if t144 = true then ((roster_Both.f k 4 0 0 0 0 0 0 0 0 0 ([] : List Int) (⟨#[48, 49, 49]⟩ : ByteArray) (⟨#[49, 49, 48]⟩ : ByteArray)).bind fun t145 => (some (t145.toList == ([48, 49, 48, 48] : List UInt8)))) else (none)))) else (none)))) else (none)) = some r := H
          have A9 := Aside0.mk A90
          clear A90
          by_cases c10 : t130 = 2
          · rw [if_pos c10] at H
            have c10b0 : (t130 == 2) = true := beq_iff_eq.mpr c10
            have c10b1 : (t130 != 2) = false := bne_eq_false_iff_eq.mpr c10
            clear c10
            replace H := Option.bind_eq_some_iff.mp H
            obtain ⟨t131, A110, H⟩ := H
            replace H : ((bellwetherref06_Ints.f k t131 (([1, 3] : List Int))).bind fun t137 => (if t137 = true then ((roster_Lacks.f k 4 0 0 0 0 0 0 0 0 0 ([] : List Int) (⟨#[48, 49, 48, 49]⟩ : ByteArray)).bind fun t138 => ((bellwetherref06_Ints.f k t138 (([0, 2] : List Int))).bind fun t144 => (if t144 = true then ((roster_Both.f k 4 0 0 0 0 0 0 0 0 0 ([] : List Int) (⟨#[48, 49, 49]⟩ : ByteArray) (⟨#[49, 49, 48]⟩ : ByteArray)).bind fun t145 => (some (t145.toList == ([48, 49, 48, 48] : List UInt8)))) else (none)))) else (none))) = some r := H
            have A11 := Aside0.mk A110
            clear A110
            obtain ⟨y134, hy134⟩ : ∃ y_ : List Int, y_ = (([1, 3] : List Int)) := ⟨_, rfl⟩
            replace H : ((bellwetherref06_Ints.f k t131 y134).bind fun t137 => (if t137 = true then ((roster_Lacks.f k 4 0 0 0 0 0 0 0 0 0 ([] : List Int) (⟨#[48, 49, 48, 49]⟩ : ByteArray)).bind fun t138 => ((bellwetherref06_Ints.f k t138 (([0, 2] : List Int))).bind fun t144 => (if t144 = true then ((roster_Both.f k 4 0 0 0 0 0 0 0 0 0 ([] : List Int) (⟨#[48, 49, 49]⟩ : ByteArray) (⟨#[49, 49, 48]⟩ : ByteArray)).bind fun t145 => (some (t145.toList == ([48, 49, 48, 48] : List UInt8)))) else (none)))) else (none))) = some r := by first | (rw [hy134]; with_reducible exact H) | (have H2_ := (Option.bind_some _ _).symm.trans H; rw [hy134]; with_reducible exact H2_) | (have H2_ := (Option.bind_some _ _).symm.trans H; with_reducible exact H2_) | with_reducible exact H | (rw [hy134]; exact H) | exact H
            have Ny134 := Aside0.mk hy134
            clear hy134
            replace H := Option.bind_eq_some_iff.mp H
            obtain ⟨t137, A120, H⟩ := H
            replace H : (if t137 = true then ((roster_Lacks.f k 4 0 0 0 0 0 0 0 0 0 ([] : List Int) (⟨#[48, 49, 48, 49]⟩ : ByteArray)).bind fun t138 => ((bellwetherref06_Ints.f k t138 (([0, 2] : List Int))).bind fun t144 => (if t144 = true then ((roster_Both.f k 4 0 0 0 0 0 0 0 0 0 ([] : List Int) (⟨#[48, 49, 49]⟩ : ByteArray) (⟨#[49, 49, 48]⟩ : ByteArray)).bind fun t145 => (some (t145.toList == ([48, 49, 48, 48] : List UInt8)))) else (none)))) else (none)) = some r := H
            have A12 := Aside0.mk A120
            clear A120
            by_cases c13 : t137 = true
            · subst c13
              have H1 : ((roster_Lacks.f k 4 0 0 0 0 0 0 0 0 0 ([] : List Int) (⟨#[48, 49, 48, 49]⟩ : ByteArray)).bind fun t138 => ((bellwetherref06_Ints.f k t138 (([0, 2] : List Int))).bind fun t144 => (if t144 = true then ((roster_Both.f k 4 0 0 0 0 0 0 0 0 0 ([] : List Int) (⟨#[48, 49, 49]⟩ : ByteArray) (⟨#[49, 49, 48]⟩ : ByteArray)).bind fun t145 => (some (t145.toList == ([48, 49, 48, 48] : List UInt8)))) else (none)))) = some r := by rw [if_pos rfl] at H; exact H
              clear H
              have H := H1
              clear H1
              replace H := Option.bind_eq_some_iff.mp H
              obtain ⟨t138, A140, H⟩ := H
              replace H : ((bellwetherref06_Ints.f k t138 (([0, 2] : List Int))).bind fun t144 => (if t144 = true then ((roster_Both.f k 4 0 0 0 0 0 0 0 0 0 ([] : List Int) (⟨#[48, 49, 49]⟩ : ByteArray) (⟨#[49, 49, 48]⟩ : ByteArray)).bind fun t145 => (some (t145.toList == ([48, 49, 48, 48] : List UInt8)))) else (none))) = some r := H
              have A14 := Aside0.mk A140
              clear A140
              obtain ⟨y141, hy141⟩ : ∃ y_ : List Int, y_ = (([0, 2] : List Int)) := ⟨_, rfl⟩
              replace H : ((bellwetherref06_Ints.f k t138 y141).bind fun t144 => (if t144 = true then ((roster_Both.f k 4 0 0 0 0 0 0 0 0 0 ([] : List Int) (⟨#[48, 49, 49]⟩ : ByteArray) (⟨#[49, 49, 48]⟩ : ByteArray)).bind fun t145 => (some (t145.toList == ([48, 49, 48, 48] : List UInt8)))) else (none))) = some r := by first | (rw [hy141]; with_reducible exact H) | (have H2_ := (Option.bind_some _ _).symm.trans H; rw [hy141]; with_reducible exact H2_) | (have H2_ := (Option.bind_some _ _).symm.trans H; with_reducible exact H2_) | with_reducible exact H | (rw [hy141]; exact H) | exact H
              have Ny141 := Aside0.mk hy141
              clear hy141
              replace H := Option.bind_eq_some_iff.mp H
              obtain ⟨t144, A150, H⟩ := H
              replace H : (if t144 = true then ((roster_Both.f k 4 0 0 0 0 0 0 0 0 0 ([] : List Int) (⟨#[48, 49, 49]⟩ : ByteArray) (⟨#[49, 49, 48]⟩ : ByteArray)).bind fun t145 => (some (t145.toList == ([48, 49, 48, 48] : List UInt8)))) else (none)) = some r := H
              have A15 := Aside0.mk A150
              clear A150
              by_cases c16 : t144 = true
              · subst c16
                have H1 : ((roster_Both.f k 4 0 0 0 0 0 0 0 0 0 ([] : List Int) (⟨#[48, 49, 49]⟩ : ByteArray) (⟨#[49, 49, 48]⟩ : ByteArray)).bind fun t145 => (some (t145.toList == ([48, 49, 48, 48] : List UInt8)))) = some r := by rw [if_pos rfl] at H; exact H
                clear H
                have H := H1
                clear H1
                replace H := Option.bind_eq_some_iff.mp H
                obtain ⟨t145, A170, H⟩ := H
                replace H : (some (t145.toList == ([48, 49, 48, 48] : List UInt8))) = some r := H
                have A17 := Aside0.mk A170
                clear A170
                obtain rfl := Option.some.inj H
                go_enter Try.func18, Try.ntmps18
                go_wp2_with (first | ((with_reducible refine gate_dst (N := 1) rfl ?_); (try (refine gate_guard (by rfl) ?_; dsimp only)); refine box_event ?hg (N := 1) ?hd (cs := #[.int .i64 0, .int .i64 0, .int .i64 0, .int .i64 0, .int .i64 0, .int .i64 0, .int .i64 0, .int .i64 0, .int .i64 0, .int .i64 0, .slice none 0 0]) (t := 24) ?hr ?_; (case hd => rfl); (case hg => rfl); (case hr => first | (go_simp; done) | (go_simp; rfl)); intro gb122 hg w18 hbox hb; have n0_ := Aside0.mk (below_step (by repeat (first | (with_reducible first | exact HB.out | apply below_alloc | apply pw_below_drewN | apply below_drew1) | exact HB.out)) hb); have n1_ := Aside0.mk (hbox); have n2_ := Aside0.mk ((by rw [hg]; exact (below_size (by repeat (first | (with_reducible first | exact HB.out | apply below_alloc | apply pw_below_drewN | apply below_drew1) | exact HB.out))) : w.heap.size ≤ gb122)); have n3_ := Aside0.mk ((by rw [hg]; exact (below_size (by repeat (first | (with_reducible first | exact HB.out | apply below_alloc | apply pw_below_drewN | apply below_drew1) | exact HB.out))) : w.heap.size ≤ gb122)); clear HB; have HB := n0_; have BK122 := n1_; have GW122 := n2_; have GE122 := n3_; clear n0_ n1_ n2_ n3_; clear hb hbox hg; obtain ⟨hcz19_0, hcz19_1, hcz19_2, hcz19_3, hcz19_4, hcz19_5, hcz19_6, hcz19_7, hcz19_8, hcz19_9, hcz19_10⟩ := cells_11 BK122.out; obtain ⟨hfz19_0, hfz19_1, hfz19_2, hfz19_3, hfz19_4, hfz19_5, hfz19_6, hfz19_7, hfz19_8, hfz19_9, hfz19_10⟩ := frozen_11 BK122.out) | ((with_reducible refine gate_callee (f := 19) rfl ?_); refine goesL_ (some 4) rfl rfl Try.func19 (by kernel_rfl) rfl #[.agg #[.int .i64 4, .int .i64 0, .int .i64 0, .int .i64 0, .int .i64 0, .int .i64 0, .int .i64 0, .int .i64 0, .int .i64 0, .int .i64 0, .slice none 0 0]] rfl (by (try simp only [List.map_toArray, List.map_cons, List.map_nil]); first | done | rfl | (simp only [List.length_drop, List.length_take]; rfl)) ?_; (refine (roster_Blank.calls k 4 0 0 0 0 0 0 0 0 0 _ _ ([] : List Int) t123 _ ?side1 ?side2 A1.out).mono ?_); (case side1 => exact Kd.C_nil _ _); (case side2 => exact Nat.le_refl _); rintro e w20 ⟨rfl, hb⟩; refine ⟨_, rfl, ?_⟩; have n0_ := Aside0.mk (blk_below (g := gb122) (o := .cells #[.int .i64 4, .int .i64 0, .int .i64 0, .int .i64 0, .int .i64 0, .int .i64 0, .int .i64 0, .int .i64 0, .int .i64 0, .int .i64 0, .slice none 0 0] 24 (0, 0)) (by (with_reducible repeat (first | refine blk_drewN ?_ _ | refine blk_drew ?_ | refine blk_alloc ?_ _)); refine blk_put (cs := #[.int .i64 4, .int .i64 0, .int .i64 0, .int .i64 0, .int .i64 0, .int .i64 0, .int .i64 0, .int .i64 0, .int .i64 0, .int .i64 0, .slice none 0 0]) ?_ 10 _ rfl; (with_reducible repeat (first | refine blk_drewN ?_ _ | refine blk_drew ?_ | refine blk_alloc ?_ _)); refine blk_put (cs := #[.int .i64 4, .int .i64 0, .int .i64 0, .int .i64 0, .int .i64 0, .int .i64 0, .int .i64 0, .int .i64 0, .int .i64 0, .int .i64 0, .slice none 0 0]) ?_ 9 _ rfl; (with_reducible repeat (first | refine blk_drewN ?_ _ | refine blk_drew ?_ | refine blk_alloc ?_ _)); refine blk_put (cs := #[.int .i64 4, .int .i64 0, .int .i64 0, .int .i64 0, .int .i64 0, .int .i64 0, .int .i64 0, .int .i64 0, .int .i64 0, .int .i64 0, .slice none 0 0]) ?_ 8 _ rfl; (with_reducible repeat (first | refine blk_drewN ?_ _ | refine blk_drew ?_ | refine blk_alloc ?_ _)); refine blk_put (cs := #[.int .i64 4, .int .i64 0, .int .i64 0, .int .i64 0, .int .i64 0, .int .i64 0, .int .i64 0, .int .i64 0, .int .i64 0, .int .i64 0, .slice none 0 0]) ?_ 7 _ rfl; (with_reducible repeat (first | refine blk_drewN ?_ _ | refine blk_drew ?_ | refine blk_alloc ?_ _)); refine blk_put (cs := #[.int .i64 4, .int .i64 0, .int .i64 0, .int .i64 0, .int .i64 0, .int .i64 0, .int .i64 0, .int .i64 0, .int .i64 0, .int .i64 0, .slice none 0 0]) ?_ 6 _ rfl; (with_reducible repeat (first | refine blk_drewN ?_ _ | refine blk_drew ?_ | refine blk_alloc ?_ _)); refine blk_put (cs := #[.int .i64 4, .int .i64 0, .int .i64 0, .int .i64 0, .int .i64 0, .int .i64 0, .int .i64 0, .int .i64 0, .int .i64 0, .int .i64 0, .slice none 0 0]) ?_ 5 _ rfl; (with_reducible repeat (first | refine blk_drewN ?_ _ | refine blk_drew ?_ | refine blk_alloc ?_ _)); refine blk_put (cs := #[.int .i64 4, .int .i64 0, .int .i64 0, .int .i64 0, .int .i64 0, .int .i64 0, .int .i64 0, .int .i64 0, .int .i64 0, .int .i64 0, .slice none 0 0]) ?_ 4 _ rfl; (with_reducible repeat (first | refine blk_drewN ?_ _ | refine blk_drew ?_ | refine blk_alloc ?_ _)); refine blk_put (cs := #[.int .i64 4, .int .i64 0, .int .i64 0, .int .i64 0, .int .i64 0, .int .i64 0, .int .i64 0, .int .i64 0, .int .i64 0, .int .i64 0, .slice none 0 0]) ?_ 3 _ rfl; (with_reducible repeat (first | refine blk_drewN ?_ _ | refine blk_drew ?_ | refine blk_alloc ?_ _)); refine blk_put (cs := #[.int .i64 4, .int .i64 0, .int .i64 0, .int .i64 0, .int .i64 0, .int .i64 0, .int .i64 0, .int .i64 0, .int .i64 0, .int .i64 0, .slice none 0 0]) ?_ 2 _ rfl; (with_reducible repeat (first | refine blk_drewN ?_ _ | refine blk_drew ?_ | refine blk_alloc ?_ _)); refine blk_put (cs := #[.int .i64 4, .int .i64 0, .int .i64 0, .int .i64 0, .int .i64 0, .int .i64 0, .int .i64 0, .int .i64 0, .int .i64 0, .int .i64 0, .slice none 0 0]) ?_ 1 _ rfl; (with_reducible repeat (first | refine blk_drewN ?_ _ | refine blk_drew ?_ | refine blk_alloc ?_ _)); refine blk_put (cs := #[.int .i64 0, .int .i64 0, .int .i64 0, .int .i64 0, .int .i64 0, .int .i64 0, .int .i64 0, .int .i64 0, .int .i64 0, .int .i64 0, .slice none 0 0]) ?_ 0 _ rfl; (with_reducible repeat (first | refine blk_drewN ?_ _ | refine blk_drew ?_ | refine blk_alloc ?_ _)); exact BK122.out) hb); have n1_ := Aside0.mk (below_step (by repeat (first | (with_reducible first | exact HB.out | apply below_alloc | apply pw_below_drewN | apply below_drew1 | refine below_set ?_ GE122.out) | exact HB.out)) hb); clear BK122; clear HB; have BK122 := n0_; have HB := n1_; clear n0_ n1_; (try clear hb); (try clear hb2); (try clear hk); (try clear hi); obtain ⟨hcz21_0, hcz21_1, hcz21_2, hcz21_3, hcz21_4, hcz21_5, hcz21_6, hcz21_7, hcz21_8, hcz21_9, hcz21_10⟩ := cells_11 BK122.out; obtain ⟨hfz21_0, hfz21_1, hfz21_2, hfz21_3, hfz21_4, hfz21_5, hfz21_6, hfz21_7, hfz21_8, hfz21_9, hfz21_10⟩ := frozen_11 BK122.out) | ((with_reducible refine gate_dst (N := 8) rfl ?_); (try (refine gate_guard (by rfl) ?_; dsimp only)); refine Kd.R_lit (Kd.int .i64) _ 3 ?hg (N := 8) ?hd (xs := ([3] : List Int)) (inner := [.int .i64 3]) (ok := fun _ => True) (okp := fun _ => True) ?hr ?hp (fun _ hk => hk) trivial (Below.refl _ _) (Nat.le_refl _) (by simp) ?_; (case hd => rfl); (case hg => rfl); (case hr => first | (go_simp; done) | (go_simp; rfl)); (case hp => exact (Reps.one (show Kd.M (Kd.int .i64) _ _ _ 3 [.int .i64 3] from rfl) (Reps.none _ _))); intro v125 w22 ho23 hb hg_ hnew_; clear hg_ hnew_; (first | rw [← Ny124.out] at ho23 | (simp only [Int.reduceToNat] at ho23; rw [← Ny124.out] at ho23)); have n0_ := Aside0.mk (Kd.R_lower ho23 (below_size (by repeat (first | (with_reducible first | exact HB.out | apply below_alloc | apply pw_below_drewN | apply below_drew1 | refine below_set ?_ GE122.out) | exact HB.out)))); have n1_ := Aside0.mk (blk_below (g := gb122) (o := .cells #[.int .i64 4, .int .i64 0, .int .i64 0, .int .i64 0, .int .i64 0, .int .i64 0, .int .i64 0, .int .i64 0, .int .i64 0, .int .i64 0, .slice none 0 0] 24 (0, 0)) (by (with_reducible repeat (first | refine blk_drewN ?_ _ | refine blk_drew ?_ | refine blk_alloc ?_ _)); exact BK122.out) hb); have n2_ := Aside0.mk (below_step (by repeat (first | (with_reducible first | exact HB.out | apply below_alloc | apply pw_below_drewN | apply below_drew1 | refine below_set ?_ GE122.out) | exact HB.out)) hb); clear BK122; clear HB; have HO126 := n0_; have BK122 := n1_; have HB := n2_; clear n0_ n1_ n2_; clear hb ho23; obtain ⟨Ao24, co24, eo24⟩ := Kd.R_slice HO126.out; subst eo24) | (go_at_call 21; (refine (roster_Mark.calls k 4 0 0 0 0 0 0 0 0 0 _ _ ([] : List Int) (⟨#[48, 49]⟩ : ByteArray) _ _ y124 t127 _ ?side1 ?side2 ?side3 ?side4 A3.out).mono ?_); (case side1 => exact Kd.C_nil _ _); (case side2 => exact Nat.le_refl _); (case side3 => repeat (first | exact (Kd.R_reads' HO126.out).2.2 | (with_reducible refine Kd.C_alloc ?_ _) | (with_reducible refine Kd.C_drewN ?_ _) | (with_reducible refine Kd.C_drew ?_))); (case side4 => exact (Kd.R_reads' HO126.out).2.1); rintro e w25 ⟨rfl, hb⟩; have n0_ := Aside0.mk (Kd.R_below (by (with_reducible repeat (first | apply Kd.R_alloc | apply Kd.R_drewN | apply Kd.R_drew)); exact HO126.out) hb); have n1_ := Aside0.mk (blk_below (g := gb122) (o := .cells #[.int .i64 4, .int .i64 0, .int .i64 0, .int .i64 0, .int .i64 0, .int .i64 0, .int .i64 0, .int .i64 0, .int .i64 0, .int .i64 0, .slice none 0 0] 24 (0, 0)) (by (with_reducible repeat (first | refine blk_drewN ?_ _ | refine blk_drew ?_ | refine blk_alloc ?_ _)); exact BK122.out) hb); have n2_ := Aside0.mk (below_step (by repeat (first | (with_reducible first | exact HB.out | apply below_alloc | apply pw_below_drewN | apply below_drew1 | refine below_set ?_ GE122.out) | exact HB.out)) hb); clear HO126; clear BK122; clear HB; have HO126 := n0_; have BK122 := n1_; have HB := n2_; clear n0_ n1_ n2_; (try clear hb); (try clear hb2); (try clear hk); (try clear hi)) | (go_at_call 25; (with_reducible refine (roster_Has.calls (⟨#[48, 49]⟩ : ByteArray) 1 true _ A5.out).mono ?_); rintro e w' ⟨rfl, ⟨nd, rfl⟩⟩) | (go_at_call 25; (with_reducible refine (roster_Has.calls (⟨#[48, 49]⟩ : ByteArray) 2 false _ A7.out).mono ?_); rintro e w' ⟨rfl, ⟨nd, rfl⟩⟩) | (go_at_call 27; (with_reducible refine (roster_Count.calls (⟨#[48, 120, 49, 49]⟩ : ByteArray) t130 _ A9.out).mono ?_); rintro e w26 ⟨rfl, hb⟩; have n0_ := Aside0.mk (Kd.R_below (by (with_reducible repeat (first | apply Kd.R_alloc | apply Kd.R_drewN | apply Kd.R_drew)); exact HO126.out) hb); have n1_ := Aside0.mk (blk_below (g := gb122) (o := .cells #[.int .i64 4, .int .i64 0, .int .i64 0, .int .i64 0, .int .i64 0, .int .i64 0, .int .i64 0, .int .i64 0, .int .i64 0, .int .i64 0, .slice none 0 0] 24 (0, 0)) (by (with_reducible repeat (first | refine blk_drewN ?_ _ | refine blk_drew ?_ | refine blk_alloc ?_ _)); exact BK122.out) hb); have n2_ := Aside0.mk (below_step (by repeat (first | (with_reducible first | exact HB.out | apply below_alloc | apply pw_below_drewN | apply below_drew1 | refine below_set ?_ GE122.out) | exact HB.out)) hb); clear HO126; clear BK122; clear HB; have HO126 := n0_; have BK122 := n1_; have HB := n2_; clear n0_ n1_ n2_; (try clear hb); (try clear hb2); (try clear hk); (try clear hi)) | (go_at_call 30; (with_reducible refine (roster_Nodes.calls (⟨#[48, 49, 48, 49]⟩ : ByteArray) t131 _ A11.out).mono ?_); rintro e w27 ⟨v132, rfl, ho0, hb⟩; have n0_ := Aside0.mk (Kd.R_elder' (by (with_reducible repeat (first | apply Kd.R_alloc | apply Kd.R_drewN | apply Kd.R_drew)); exact HO126.out) (Kd.R_base ho0) hb); have n1_ := Aside0.mk (Kd.R_lower (Kd.R_new' ho0 (Kd.R_lt (by (with_reducible repeat (first | apply Kd.R_alloc | apply Kd.R_drewN | apply Kd.R_drew)); exact HO126.out))) (below_size (by repeat (first | (with_reducible first | exact HB.out | apply below_alloc | apply pw_below_drewN | apply below_drew1 | refine below_set ?_ GE122.out) | exact HB.out)))); have n2_ := Aside0.mk (blk_below (g := gb122) (o := .cells #[.int .i64 4, .int .i64 0, .int .i64 0, .int .i64 0, .int .i64 0, .int .i64 0, .int .i64 0, .int .i64 0, .int .i64 0, .int .i64 0, .slice none 0 0] 24 (0, 0)) (by (with_reducible repeat (first | refine blk_drewN ?_ _ | refine blk_drew ?_ | refine blk_alloc ?_ _)); exact BK122.out) hb); have n3_ := Aside0.mk (below_step (by repeat (first | (with_reducible first | exact HB.out | apply below_alloc | apply pw_below_drewN | apply below_drew1 | refine below_set ?_ GE122.out) | exact HB.out)) hb); clear HO126; clear BK122; clear HB; have HO126 := n0_; have HO133 := n1_; have BK122 := n2_; have HB := n3_; clear n0_ n1_ n2_ n3_; (try clear hb); (try clear hb2); (try clear hk); (try clear hi); (try clear ho0)) | ((with_reducible refine gate_dst (N := 25) rfl ?_); (try (refine gate_guard (by rfl) ?_; dsimp only)); refine Kd.R_lit (Kd.int .i64) _ 3 ?hg (N := 25) ?hd (xs := ([1, 3] : List Int)) (inner := [.int .i64 1, .int .i64 3]) (ok := fun _ => True) (okp := fun _ => True) ?hr ?hp (fun _ hk => hk) trivial (Below.refl _ _) (Nat.le_refl _) (by simp) ?_; (case hd => rfl); (case hg => rfl); (case hr => first | (go_simp; done) | (go_simp; rfl)); (case hp => exact (Reps.one (show Kd.M (Kd.int .i64) _ _ _ 1 [.int .i64 1] from rfl) (Reps.one (show Kd.M (Kd.int .i64) _ _ _ 3 [.int .i64 3] from rfl) (Reps.none _ _)))); intro v135 w28 ho29 hb hg_ hnew_; clear hg_ hnew_; (first | rw [← Ny134.out] at ho29 | (simp only [Int.reduceToNat] at ho29; rw [← Ny134.out] at ho29)); have n0_ := Aside0.mk (Kd.R_elder' (by (with_reducible repeat (first | apply Kd.R_alloc | apply Kd.R_drewN | apply Kd.R_drew)); exact HO126.out) (Kd.R_base ho29) hb); have n1_ := Aside0.mk (Kd.R_elder' (by (with_reducible repeat (first | apply Kd.R_alloc | apply Kd.R_drewN | apply Kd.R_drew)); exact HO133.out) (Kd.R_base ho29) hb); have n2_ := Aside0.mk (Kd.R_lower (Kd.R_new' (Kd.R_new' ho29 (Kd.R_lt (by (with_reducible repeat (first | apply Kd.R_alloc | apply Kd.R_drewN | apply Kd.R_drew)); exact HO126.out))) (Kd.R_lt (by (with_reducible repeat (first | apply Kd.R_alloc | apply Kd.R_drewN | apply Kd.R_drew)); exact HO133.out))) (below_size (by repeat (first | (with_reducible first | exact HB.out | apply below_alloc | apply pw_below_drewN | apply below_drew1 | refine below_set ?_ GE122.out) | exact HB.out)))); have n3_ := Aside0.mk (blk_below (g := gb122) (o := .cells #[.int .i64 4, .int .i64 0, .int .i64 0, .int .i64 0, .int .i64 0, .int .i64 0, .int .i64 0, .int .i64 0, .int .i64 0, .int .i64 0, .slice none 0 0] 24 (0, 0)) (by (with_reducible repeat (first | refine blk_drewN ?_ _ | refine blk_drew ?_ | refine blk_alloc ?_ _)); exact BK122.out) hb); have n4_ := Aside0.mk (below_step (by repeat (first | (with_reducible first | exact HB.out | apply below_alloc | apply pw_below_drewN | apply below_drew1 | refine below_set ?_ GE122.out) | exact HB.out)) hb); clear HO126; clear HO133; clear BK122; clear HB; have HO126 := n0_; have HO133 := n1_; have HO136 := n2_; have BK122 := n3_; have HB := n4_; clear n0_ n1_ n2_ n3_ n4_; clear hb ho29; obtain ⟨Ao30, co30, eo30⟩ := Kd.R_slice HO133.out; subst eo30; obtain ⟨Ao31, co31, eo31⟩ := Kd.R_slice HO136.out; subst eo31) | (go_at_call 29; (with_reducible refine (bellwetherref06_Ints.calls k _ _ t131 _ _ y134 true _ ?side1 ?side2 ?side3 ?side4 A12.out).mono ?_); (case side1 => repeat (first | exact (Kd.R_reads' HO133.out).2.2 | (with_reducible refine Kd.C_alloc ?_ _) | (with_reducible refine Kd.C_drewN ?_ _) | (with_reducible refine Kd.C_drew ?_))); (case side2 => exact (Kd.R_reads' HO133.out).2.1); (case side3 => repeat (first | exact (Kd.R_reads' HO136.out).2.2 | (with_reducible refine Kd.C_alloc ?_ _) | (with_reducible refine Kd.C_drewN ?_ _) | (with_reducible refine Kd.C_drew ?_))); (case side4 => exact (Kd.R_reads' HO136.out).2.1); rintro e w' ⟨rfl, ⟨nd, rfl⟩⟩; obtain ⟨hcz32_0, hcz32_1, hcz32_2, hcz32_3, hcz32_4, hcz32_5, hcz32_6, hcz32_7, hcz32_8, hcz32_9, hcz32_10⟩ := cells_11 BK122.out; obtain ⟨hfz32_0, hfz32_1, hfz32_2, hfz32_3, hfz32_4, hfz32_5, hfz32_6, hfz32_7, hfz32_8, hfz32_9, hfz32_10⟩ := frozen_11 BK122.out) | (go_at_call 32; (refine (roster_Lacks.calls k 4 0 0 0 0 0 0 0 0 0 _ _ ([] : List Int) (⟨#[48, 49, 48, 49]⟩ : ByteArray) t138 _ ?side1 ?side2 A14.out).mono ?_); (case side1 => exact Kd.C_nil _ _); (case side2 => exact Nat.le_refl _); rintro e w33 ⟨v139, rfl, ho0, hb⟩; have n0_ := Aside0.mk (Kd.R_elder' (by (with_reducible repeat (first | apply Kd.R_alloc | apply Kd.R_drewN | apply Kd.R_drew)); exact HO126.out) (Kd.R_base ho0) hb); have n1_ := Aside0.mk (Kd.R_elder' (by (with_reducible repeat (first | apply Kd.R_alloc | apply Kd.R_drewN | apply Kd.R_drew)); exact HO133.out) (Kd.R_base ho0) hb); have n2_ := Aside0.mk (Kd.R_elder' (by (with_reducible repeat (first | apply Kd.R_alloc | apply Kd.R_drewN | apply Kd.R_drew)); exact HO136.out) (Kd.R_base ho0) hb); have n3_ := Aside0.mk (Kd.R_lower (Kd.R_new' (Kd.R_new' (Kd.R_new' ho0 (Kd.R_lt (by (with_reducible repeat (first | apply Kd.R_alloc | apply Kd.R_drewN | apply Kd.R_drew)); exact HO126.out))) (Kd.R_lt (by (with_reducible repeat (first | apply Kd.R_alloc | apply Kd.R_drewN | apply Kd.R_drew)); exact HO133.out))) (Kd.R_lt (by (with_reducible repeat (first | apply Kd.R_alloc | apply Kd.R_drewN | apply Kd.R_drew)); exact HO136.out))) (below_size (by repeat (first | (with_reducible first | exact HB.out | apply below_alloc | apply pw_below_drewN | apply below_drew1 | refine below_set ?_ GE122.out) | exact HB.out)))); have n4_ := Aside0.mk (blk_below (g := gb122) (o := .cells #[.int .i64 4, .int .i64 0, .int .i64 0, .int .i64 0, .int .i64 0, .int .i64 0, .int .i64 0, .int .i64 0, .int .i64 0, .int .i64 0, .slice none 0 0] 24 (0, 0)) (by (with_reducible repeat (first | refine blk_drewN ?_ _ | refine blk_drew ?_ | refine blk_alloc ?_ _)); exact BK122.out) hb); have n5_ := Aside0.mk (below_step (by repeat (first | (with_reducible first | exact HB.out | apply below_alloc | apply pw_below_drewN | apply below_drew1 | refine below_set ?_ GE122.out) | exact HB.out)) hb); clear HO126; clear HO133; clear HO136; clear BK122; clear HB; have HO126 := n0_; have HO133 := n1_; have HO136 := n2_; have HO140 := n3_; have BK122 := n4_; have HB := n5_; clear n0_ n1_ n2_ n3_ n4_ n5_; (try clear hb); (try clear hb2); (try clear hk); (try clear hi); (try clear ho0)) | ((with_reducible refine gate_dst (N := 31) rfl ?_); (try (refine gate_guard (by rfl) ?_; dsimp only)); refine Kd.R_lit (Kd.int .i64) _ 3 ?hg (N := 31) ?hd (xs := ([0, 2] : List Int)) (inner := [.int .i64 0, .int .i64 2]) (ok := fun _ => True) (okp := fun _ => True) ?hr ?hp (fun _ hk => hk) trivial (Below.refl _ _) (Nat.le_refl _) (by simp) ?_; (case hd => rfl); (case hg => rfl); (case hr => first | (go_simp; done) | (go_simp; rfl)); (case hp => exact (Reps.one (show Kd.M (Kd.int .i64) _ _ _ 0 [.int .i64 0] from rfl) (Reps.one (show Kd.M (Kd.int .i64) _ _ _ 2 [.int .i64 2] from rfl) (Reps.none _ _)))); intro v142 w34 ho35 hb hg_ hnew_; clear hg_ hnew_; (first | rw [← Ny141.out] at ho35 | (simp only [Int.reduceToNat] at ho35; rw [← Ny141.out] at ho35)); have n0_ := Aside0.mk (Kd.R_elder' (by (with_reducible repeat (first | apply Kd.R_alloc | apply Kd.R_drewN | apply Kd.R_drew)); exact HO126.out) (Kd.R_base ho35) hb); have n1_ := Aside0.mk (Kd.R_elder' (by (with_reducible repeat (first | apply Kd.R_alloc | apply Kd.R_drewN | apply Kd.R_drew)); exact HO133.out) (Kd.R_base ho35) hb); have n2_ := Aside0.mk (Kd.R_elder' (by (with_reducible repeat (first | apply Kd.R_alloc | apply Kd.R_drewN | apply Kd.R_drew)); exact HO136.out) (Kd.R_base ho35) hb); have n3_ := Aside0.mk (Kd.R_elder' (by (with_reducible repeat (first | apply Kd.R_alloc | apply Kd.R_drewN | apply Kd.R_drew)); exact HO140.out) (Kd.R_base ho35) hb); have n4_ := Aside0.mk (Kd.R_lower (Kd.R_new' (Kd.R_new' (Kd.R_new' (Kd.R_new' ho35 (Kd.R_lt (by (with_reducible repeat (first | apply Kd.R_alloc | apply Kd.R_drewN | apply Kd.R_drew)); exact HO126.out))) (Kd.R_lt (by (with_reducible repeat (first | apply Kd.R_alloc | apply Kd.R_drewN | apply Kd.R_drew)); exact HO133.out))) (Kd.R_lt (by (with_reducible repeat (first | apply Kd.R_alloc | apply Kd.R_drewN | apply Kd.R_drew)); exact HO136.out))) (Kd.R_lt (by (with_reducible repeat (first | apply Kd.R_alloc | apply Kd.R_drewN | apply Kd.R_drew)); exact HO140.out))) (below_size (by repeat (first | (with_reducible first | exact HB.out | apply below_alloc | apply pw_below_drewN | apply below_drew1 | refine below_set ?_ GE122.out) | exact HB.out)))); have n5_ := Aside0.mk (blk_below (g := gb122) (o := .cells #[.int .i64 4, .int .i64 0, .int .i64 0, .int .i64 0, .int .i64 0, .int .i64 0, .int .i64 0, .int .i64 0, .int .i64 0, .int .i64 0, .slice none 0 0] 24 (0, 0)) (by (with_reducible repeat (first | refine blk_drewN ?_ _ | refine blk_drew ?_ | refine blk_alloc ?_ _)); exact BK122.out) hb); have n6_ := Aside0.mk (below_step (by repeat (first | (with_reducible first | exact HB.out | apply below_alloc | apply pw_below_drewN | apply below_drew1 | refine below_set ?_ GE122.out) | exact HB.out)) hb); clear HO126; clear HO133; clear HO136; clear HO140; clear BK122; clear HB; have HO126 := n0_; have HO133 := n1_; have HO136 := n2_; have HO140 := n3_; have HO143 := n4_; have BK122 := n5_; have HB := n6_; clear n0_ n1_ n2_ n3_ n4_ n5_ n6_; clear hb ho35; obtain ⟨Ao36, co36, eo36⟩ := Kd.R_slice HO140.out; subst eo36; obtain ⟨Ao37, co37, eo37⟩ := Kd.R_slice HO143.out; subst eo37) | (go_at_call 29; (with_reducible refine (bellwetherref06_Ints.calls k _ _ t138 _ _ y141 true _ ?side1 ?side2 ?side3 ?side4 A15.out).mono ?_); (case side1 => repeat (first | exact (Kd.R_reads' HO140.out).2.2 | (with_reducible refine Kd.C_alloc ?_ _) | (with_reducible refine Kd.C_drewN ?_ _) | (with_reducible refine Kd.C_drew ?_))); (case side2 => exact (Kd.R_reads' HO140.out).2.1); (case side3 => repeat (first | exact (Kd.R_reads' HO143.out).2.2 | (with_reducible refine Kd.C_alloc ?_ _) | (with_reducible refine Kd.C_drewN ?_ _) | (with_reducible refine Kd.C_drew ?_))); (case side4 => exact (Kd.R_reads' HO143.out).2.1); rintro e w' ⟨rfl, ⟨nd, rfl⟩⟩; obtain ⟨hcz38_0, hcz38_1, hcz38_2, hcz38_3, hcz38_4, hcz38_5, hcz38_6, hcz38_7, hcz38_8, hcz38_9, hcz38_10⟩ := cells_11 BK122.out; obtain ⟨hfz38_0, hfz38_1, hfz38_2, hfz38_3, hfz38_4, hfz38_5, hfz38_6, hfz38_7, hfz38_8, hfz38_9, hfz38_10⟩ := frozen_11 BK122.out) | (go_at_call 23; (refine (roster_Both.calls k 4 0 0 0 0 0 0 0 0 0 _ _ ([] : List Int) (⟨#[48, 49, 49]⟩ : ByteArray) (⟨#[49, 49, 48]⟩ : ByteArray) t145 _ ?side1 ?side2 A17.out).mono ?_); (case side1 => exact Kd.C_nil _ _); (case side2 => exact Nat.le_refl _); rintro e w39 ⟨rfl, hb⟩; have n0_ := Aside0.mk (Kd.R_below (by (with_reducible repeat (first | apply Kd.R_alloc | apply Kd.R_drewN | apply Kd.R_drew)); exact HO126.out) hb); have n1_ := Aside0.mk (Kd.R_below (by (with_reducible repeat (first | apply Kd.R_alloc | apply Kd.R_drewN | apply Kd.R_drew)); exact HO133.out) hb); have n2_ := Aside0.mk (Kd.R_below (by (with_reducible repeat (first | apply Kd.R_alloc | apply Kd.R_drewN | apply Kd.R_drew)); exact HO136.out) hb); have n3_ := Aside0.mk (Kd.R_below (by (with_reducible repeat (first | apply Kd.R_alloc | apply Kd.R_drewN | apply Kd.R_drew)); exact HO140.out) hb); have n4_ := Aside0.mk (Kd.R_below (by (with_reducible repeat (first | apply Kd.R_alloc | apply Kd.R_drewN | apply Kd.R_drew)); exact HO143.out) hb); have n5_ := Aside0.mk (blk_below (g := gb122) (o := .cells #[.int .i64 4, .int .i64 0, .int .i64 0, .int .i64 0, .int .i64 0, .int .i64 0, .int .i64 0, .int .i64 0, .int .i64 0, .int .i64 0, .slice none 0 0] 24 (0, 0)) (by (with_reducible repeat (first | refine blk_drewN ?_ _ | refine blk_drew ?_ | refine blk_alloc ?_ _)); exact BK122.out) hb); have n6_ := Aside0.mk (below_step (by repeat (first | (with_reducible first | exact HB.out | apply below_alloc | apply pw_below_drewN | apply below_drew1 | refine below_set ?_ GE122.out) | exact HB.out)) hb); clear HO126; clear HO133; clear HO136; clear HO140; clear HO143; clear BK122; clear HB; have HO126 := n0_; have HO133 := n1_; have HO136 := n2_; have HO140 := n3_; have HO143 := n4_; have BK122 := n5_; have HB := n6_; clear n0_ n1_ n2_ n3_ n4_ n5_ n6_; (try clear hb); (try clear hb2); (try clear hk); (try clear hi)))
                go_ret
                exact ⟨by first | rfl | (simp [errW_none, errW_some] <;> rfl) | (simp [*, errW_none, errW_some] <;> rfl), by repeat (first | (with_reducible first | exact HB.out | apply below_alloc | apply pw_below_drewN | apply below_drew1 | refine below_set ?_ GE122.out) | exact HB.out)⟩
              · replace c16 := Bool.eq_false_iff.mpr c16
                subst c16
                have H1 : (none) = some r := by rw [if_neg (show ¬ (false = true) by decide)] at H; exact H
                clear H
                have H := H1
                clear H1
                exact absurd H (by simp)
            · replace c13 := Bool.eq_false_iff.mpr c13
              subst c13
              have H1 : (none) = some r := by rw [if_neg (show ¬ (false = true) by decide)] at H; exact H
              clear H
              have H := H1
              clear H1
              exact absurd H (by simp)
          · rw [if_neg c10] at H
            exact absurd H (by simp)
      · replace c6 := Bool.eq_false_iff.mpr c6
        subst c6
        have H1 : (none) = some r := by rw [if_neg (show ¬ (false = true) by decide)] at H; exact H
        clear H
        have H := H1
        clear H1
        exact absurd H (by simp)
    · rw [if_neg c4] at H
      exact absurd H (by simp)
  · rw [if_neg c2] at H
    exact absurd H (by simp)
def bellwetherref23_Has.f (a0 : ByteArray) (a1 : Int) : Option (Bool) := if a1 ≥ 0 then (if a1 < (a0.size : Int) then (if 0 ≤ a1 then (some ((bt a0 a1) == 49)) else (none)) else (some false)) else (some false)
set_option maxHeartbeats 8000000 in
set_option maxRecDepth 100000 in
theorem bellwetherref23_Has.calls (a0 : ByteArray) (a1 : Int) (r : Bool) (w : World) (h : bellwetherref23_Has.f a0 a1 = some r) :
    Calls Try.prog 72 #[.string a0, .int .i64 a1] w fun e w' => e = .returned (.bool r) ∧ Drawn0 w w' := by
  have H : (if a1 ≥ 0 then (if a1 < (a0.size : Int) then (if 0 ≤ a1 then (some ((bt a0 a1) == 49)) else (none)) else (some false)) else (some false)) = some r := h
  clear h
  by_cases c3 : a1 ≥ 0
  · rw [if_pos c3] at H
    have c3b0 : decide (0 ≤ a1) = true := decide_eq_true c3
    clear c3
    by_cases c4 : a1 < (a0.size : Int)
    · rw [if_pos c4] at H
      have c4b0 : decide (a1 < (a0.size : Int)) = true := decide_eq_true c4
      clear c4
      by_cases c5 : 0 ≤ a1
      · rw [if_pos c5] at H
        have c5b0 : decide (0 ≤ a1) = true := decide_eq_true c5
        clear c5
        obtain rfl := Option.some.inj H
        have p6 : 0 ≤ (a1 : Int) := of_decide_eq_true (by first | (with_reducible assumption) | assumption)
        have q6 : a1 < (a0.size : Int) := of_decide_eq_true (by first | (with_reducible assumption) | assumption)
        have hx6 := bt_at a0 a1
        replace p6 := eq_true p6
        replace q6 := eq_true q6
        go_enter Try.func72, Try.ntmps72
        go_wp2
        go_ret
        exact ⟨by first | rfl | (simp; done) | (simp [*]; done), by repeat (first | exact Drawn0.refl _ | apply Drawn0.step)⟩
      · rw [if_neg c5] at H
        exact absurd H (by simp)
    · rw [if_neg c4] at H
      have c4b0 : decide (a1 < (a0.size : Int)) = false := decide_eq_false c4
      clear c4
      obtain rfl := Option.some.inj H
      go_enter Try.func72, Try.ntmps72
      go_wp2
      go_ret
      exact ⟨by first | rfl | (simp; done) | (simp [*]; done), by repeat (first | exact Drawn0.refl _ | apply Drawn0.step)⟩
  · rw [if_neg c3] at H
    have c3b0 : decide (0 ≤ a1) = false := decide_eq_false c3
    clear c3
    obtain rfl := Option.some.inj H
    go_enter Try.func72, Try.ntmps72
    go_wp2
    go_ret
    exact ⟨by first | rfl | (simp; done) | (simp [*]; done), by repeat (first | exact Drawn0.refl _ | apply Drawn0.step)⟩
def bellwetherref01_Clamp.f (a0 : Int) (a1 : Int) (a2 : Int) : Option (Int) := if a0 < a1 then (some a1) else (if a2 < a1 then (some a1) else (some (mn a0 a2)))
set_option maxHeartbeats 8000000 in
set_option maxRecDepth 100000 in
theorem bellwetherref01_Clamp.calls (a0 : Int) (a1 : Int) (a2 : Int) (r : Int) (w : World) (h : bellwetherref01_Clamp.f a0 a1 a2 = some r) :
    Calls Try.prog 75 #[.int .i64 a0, .int .i64 a1, .int .i64 a2] w fun e w' => e = .returned (.int .i64 r) ∧ Below w.heap.size w w' := by
  have HB := Aside0.mk (Below.refl w.heap.size w)
  have H : (if a0 < a1 then (some a1) else (if a2 < a1 then (some a1) else (some (mn a0 a2)))) = some r := h
  clear h
  by_cases c4 : a0 < a1
  · rw [if_pos c4] at H
    have c4b0 : decide (a0 < a1) = true := decide_eq_true c4
    clear c4
    obtain rfl := Option.some.inj H
    go_enter Try.func75, Try.ntmps75
    go_wp2
    go_ret
    exact ⟨by first | rfl | (simp [errW_none, errW_some] <;> rfl) | (simp [*, errW_none, errW_some] <;> rfl), by repeat (first | (with_reducible first | exact HB.out | apply below_alloc | apply pw_below_drewN | apply below_drew1) | exact HB.out)⟩
  · rw [if_neg c4] at H
    have c4b0 : decide (a0 < a1) = false := decide_eq_false c4
    clear c4
    by_cases c5 : a2 < a1
    · rw [if_pos c5] at H
      have c5b0 : decide (a2 < a1) = true := decide_eq_true c5
      clear c5
      obtain rfl := Option.some.inj H
      go_enter Try.func75, Try.ntmps75
      go_wp2
      go_ret
      exact ⟨by first | rfl | (simp [errW_none, errW_some] <;> rfl) | (simp [*, errW_none, errW_some] <;> rfl), by repeat (first | (with_reducible first | exact HB.out | apply below_alloc | apply pw_below_drewN | apply below_drew1) | exact HB.out)⟩
    · rw [if_neg c5] at H
      have c5b0 : decide (a2 < a1) = false := decide_eq_false c5
      clear c5
      obtain ⟨ji6, hji6⟩ : ∃ j_ : Int, (mn a0 a2) = j_ := ⟨_, rfl⟩
      replace H : (some ji6) = some r := by first | (rw [hji6] at H; exact H) | (simp only [hji6] at H ⊢; exact H)
      have hji6_ : (if a2 < a0 then a2 else a0) = ji6 := hji6
      obtain rfl := Option.some.inj H
      go_enter Try.func75, Try.ntmps75
      go_wp2
      go_ret
      exact ⟨by first | rfl | (simp [errW_none, errW_some] <;> rfl) | (simp only [← hji6]; first | rfl | (simp [errW_none, errW_some] <;> rfl)) | (simp [*, errW_none, errW_some] <;> rfl), by repeat (first | (with_reducible first | exact HB.out | apply below_alloc | apply pw_below_drewN | apply below_drew1) | exact HB.out)⟩
end Go.Proofs.Ytdcknaoamjlaiaa.Gn
