import Derived.Test.YthdoghhmooodjaaZPremiseAfterGn2
import Derived.Test.YthdoghhmooodjaaZPremiseAfterGn10
import Derived.Test.YthdoghhmooodjaaZPremiseAfterGn14
import Derived.Test.YthdoghhmooodjaaZPremiseAfterGn16
import Derived.Test.YthdoghhmooodjaaZPremiseAfterGn35
import Derived.Test.YthdoghhmooodjaaZPremiseAfterScriptFacts
namespace Go.Proofs.Ythdoghhmooodjaa.Facts
open Go.RowKit Go.Proofs.Ythdoghhmooodjaa.Gn Go.Proofs.YthdoghhmooodjaaW.PrintWords Go.Proofs.YthdoghhmooodjaaW.PrintLast
set_option linter.unusedVariables false
set_option linter.unusedSimpArgs false
/-- The first tick that can't be. -/
def ticksV (N : Int) : List TK → Int
  | [] => 0
  | t :: ts => if tickV N t = 0 then ticksV N ts else tickV N t
theorem sright_l0 (s : SC) (hT : s.f3.length ≤ 1000000) : ∀ (d k j : Nat), j + d = s.f3.length → d + 3 ≤ k → script_Right.l0 k s.f3 (s.f3.length : Int) (j : Int) s.f0.f0 s.f0.f1 s.f0.f2 s.f0.f3 s.f0.f4 s.f0.f5 s.f0.f6 s.f0.f7 s.f0.f8 s.f0.f9 s.f0.f10 s.f1 s.f2 s.f3 = some (ticksV s.f0.f0 (s.f3.drop j))
  | 0, k, j, h, hk => by
    obtain ⟨k, rfl, _⟩ := peel (show 0 + 1 ≤ k by omega)
    rw [script_Right.l0, if_neg (by omega), List.drop_of_length_le (by omega)]
    rfl
  | d + 1, k, j, h, hk => by
    obtain ⟨k, rfl, hk'⟩ := peel (show d + 3 + 1 ≤ k by omega)
    have hj : j < s.f3.length := by omega
    have ih := sright_l0 s hT d k (j + 1) (by omega) hk'
    rw [script_Right.l0, if_pos (by omega), if_pos (by omega), if_pos (by omega), rd_tick s.f3 j hj, stick_eq k (by omega), Option.bind_some, w64_step (by omega), ih, List.drop_eq_getElem_cons hj, ticksV]
    split <;> rfl
/-- Why a script can't be; 0 if it can. -/
def lateV (s : SC) : Bool := decide ((s.f2.length : Int) > s.f0.f0) || decide ((s.f3.length : Int) > 2000) || !s.f2.all script_Right1B
def rightV (s : SC) : Int := if rightE s.f0.f0 s.f0.f1 s.f0.f2 s.f0.f3 s.f0.f4 s.f0.f5 s.f0.f6 s.f0.f7 s.f0.f8 s.f0.f9 s.f0.f10 = 0 then (if fltV s.f0.f0 s.f1 s.f1.length 0 = true then (if lateV s = true then 6 else ticksV s.f0.f0 s.f3) else 7) else rightE s.f0.f0 s.f0.f1 s.f0.f2 s.f0.f3 s.f0.f4 s.f0.f5 s.f0.f6 s.f0.f7 s.f0.f8 s.f0.f9 s.f0.f10
theorem sright_j0 (k : Nat) (hk : 3000 ≤ k) (s : SC) (hT : s.f3.length ≤ 2900) (b : Bool) : script_Right.j0 k b s.f0.f0 s.f0.f1 s.f0.f2 s.f0.f3 s.f0.f4 s.f0.f5 s.f0.f6 s.f0.f7 s.f0.f8 s.f0.f9 s.f0.f10 s.f1 s.f2 s.f3 = some (if b = true then 6 else ticksV s.f0.f0 s.f3) := by
  obtain ⟨k, rfl, _⟩ := peel (show 2999 + 1 ≤ k by omega)
  rw [script_Right.j0]
  cases b with
  | true => rfl
  | false =>
    have := sright_l0 s (by omega) s.f3.length k 0 (by omega) (by omega)
    rw [List.drop_zero] at this
    rw [if_neg (by decide)]
    exact this
/-- A script that is short enough. -/
structure Few (n : Nat) (s : SC) : Prop where
  tk : s.f3.length ≤ n
  tb : s.f0.f10.length ≤ 100
  fa : s.f1.length ≤ 100
  im : s.f2.length ≤ 100
  each : ∀ t ∈ s.f3, Tiny t
theorem sright_eq (k : Nat) (hk : 3100 ≤ k) (s : SC) (hs : Few 2900 s) : script_Right.f k s.f0.f0 s.f0.f1 s.f0.f2 s.f0.f3 s.f0.f4 s.f0.f5 s.f0.f6 s.f0.f7 s.f0.f8 s.f0.f9 s.f0.f10 s.f1 s.f2 s.f3 = some (rightV s) := by
  have h1 := hs.tk; have h2 := hs.fa
  have hj := sright_j0 k (by omega) s h1
  have hf := sfaulty_l0 s (by omega) s.f1.length k 0 (by omega) (by omega)
  unfold script_Right.f rightV
  rw [right_eq (k := k) (hk := by omega), Option.bind_some]
  by_cases hr : rightE s.f0.f0 s.f0.f1 s.f0.f2 s.f0.f3 s.f0.f4 s.f0.f5 s.f0.f6 s.f0.f7 s.f0.f8 s.f0.f9 s.f0.f10 = 0
  · rw [if_pos hr, if_pos hr]
    unfold script_faulty.f
    rw [show script_faulty.l0 k s.f1 (s.f1.length : Int) 0 s.f0.f0 s.f0.f1 s.f0.f2 s.f0.f3 s.f0.f4 s.f0.f5 s.f0.f6 s.f0.f7 s.f0.f8 s.f0.f9 s.f0.f10 s.f1 s.f2 s.f3 = _ from hf, Option.bind_some]
    cases fltV s.f0.f0 s.f1 s.f1.length 0 with
    | false => rfl
    | true =>
      rw [if_pos rfl, if_pos rfl, script_every_Right1.f, Option.bind_some, hj, hj]
      unfold lateV
      by_cases ha : (s.f2.length : Int) > s.f0.f0
      · rw [if_pos ha, decide_eq_true ha]
        rfl
      · rw [if_neg ha, decide_eq_false ha]
        by_cases hb : (s.f3.length : Int) > 2000
        · rw [if_pos hb, decide_eq_true hb]
          rfl
        · rw [if_neg hb, decide_eq_false hb]
          rfl
  · rw [if_neg hr, if_neg hr]
theorem rright_l2 (s : SC) (hs : Few 2900 s) : ∀ (d k j : Nat), j + d = s.f3.length → d + 5001 ≤ k → r33_Right.l2 k (j : Int) s.f0.f0 s.f0.f1 s.f0.f2 s.f0.f3 s.f0.f4 s.f0.f5 s.f0.f6 s.f0.f7 s.f0.f8 s.f0.f9 s.f0.f10 s.f1 s.f2 s.f3 = some (ticksV s.f0.f0 (s.f3.drop j))
  | 0, k, j, h, hk => by
    obtain ⟨k, rfl, _⟩ := peel (show 0 + 1 ≤ k by omega)
    rw [r33_Right.l2, if_neg (by omega), List.drop_of_length_le (by omega)]
    rfl
  | d + 1, k, j, h, hk => by
    obtain ⟨k, rfl, hk'⟩ := peel (show d + 5001 + 1 ≤ k by omega)
    have hj : j < s.f3.length := by omega
    have ht := hs.tk
    have ih := rright_l2 s hs d k (j + 1) (by omega) hk'
    rw [r33_Right.l2, if_pos (by omega), if_pos (by omega), rd_tick s.f3 j hj, rtick_eq k (by omega) s.f0 _ (hs.each _ (List.getElem_mem hj)), Option.bind_some, w64_step (by omega), ih, List.drop_eq_getElem_cons hj, ticksV]
    split <;> rfl
theorem rright_l1 (s : SC) (hs : Few 2900 s) : ∀ (d k j : Nat), j + d = s.f2.length → d + 8000 ≤ k → r33_Right.l1 k (j : Int) s.f0.f0 s.f0.f1 s.f0.f2 s.f0.f3 s.f0.f4 s.f0.f5 s.f0.f6 s.f0.f7 s.f0.f8 s.f0.f9 s.f0.f10 s.f1 s.f2 s.f3 = some (if (s.f2.drop j).all script_Right1B = true then ticksV s.f0.f0 s.f3 else 6)
  | 0, k, j, h, hk => by
    have ht := hs.tk
    obtain ⟨k, rfl, hk'⟩ := peel (show 7999 + 1 ≤ k by omega)
    have := rright_l2 s hs s.f3.length k 0 (by omega) (by omega)
    rw [List.drop_zero] at this
    rw [r33_Right.l1, if_neg (by omega), List.drop_of_length_le (by omega)]
    exact this
  | d + 1, k, j, h, hk => by
    obtain ⟨k, rfl, hk'⟩ := peel (show d + 8000 + 1 ≤ k by omega)
    have hj : j < s.f2.length := by omega
    have hi := hs.im
    have ih := rright_l1 s hs d k (j + 1) (by omega) hk'
    rw [r33_Right.l1, if_pos (by omega), if_pos (by omega), rd_str s.f2 j hj, w64_step (by omega), ih, List.drop_eq_getElem_cons hj, List.all_cons]
    by_cases hb : (s.f2[j].size : Int) > 8000
    · have hp : script_Right1B s.f2[j] = false := decide_eq_false (by omega)
      rw [if_pos hb, hp]
      rfl
    · have hp : script_Right1B s.f2[j] = true := decide_eq_true (by omega)
      rw [if_neg hb, hp, Bool.true_and]
theorem rright_j1 (k : Nat) (hk : 8200 ≤ k) (s : SC) (hs : Few 2900 s) (b : Bool) : r33_Right.j1 k b s.f0.f0 s.f0.f1 s.f0.f2 s.f0.f3 s.f0.f4 s.f0.f5 s.f0.f6 s.f0.f7 s.f0.f8 s.f0.f9 s.f0.f10 s.f1 s.f2 s.f3 = some (if b = true then 6 else if s.f2.all script_Right1B = true then ticksV s.f0.f0 s.f3 else 6) := by
  obtain ⟨k, rfl, _⟩ := peel (show 8199 + 1 ≤ k by omega)
  have hi := hs.im
  rw [r33_Right.j1]
  cases b with
  | true => rfl
  | false =>
    have := rright_l1 s hs s.f2.length k 0 (by omega) (by omega)
    rw [List.drop_zero] at this
    rw [if_neg (by decide)]
    exact this
theorem rright_l0 (B : Nat) (hB : 8200 ≤ B) (s : SC) (hs : Few 2900 s) : ∀ (d k j : Nat), j + d = s.f1.length → d + (B + 1) ≤ k → r33_Right.l0 k (j : Int) s.f0.f0 s.f0.f1 s.f0.f2 s.f0.f3 s.f0.f4 s.f0.f5 s.f0.f6 s.f0.f7 s.f0.f8 s.f0.f9 s.f0.f10 s.f1 s.f2 s.f3 = some (if fltV s.f0.f0 s.f1 d j = true then (if lateV s = true then 6 else ticksV s.f0.f0 s.f3) else 7)
  | 0, k, j, h, hk => by
    obtain ⟨k, rfl, hk'⟩ := peel (show B + 1 ≤ k by omega)
    have hj1 := rright_j1 k (by omega) s hs
    rw [r33_Right.l0, if_neg (by omega), hj1, hj1]
    unfold lateV
    show _ = some (if (decide ((s.f2.length : Int) > s.f0.f0) || decide ((s.f3.length : Int) > 2000) || !s.f2.all script_Right1B) = true then 6 else ticksV s.f0.f0 s.f3)
    by_cases ha : (s.f2.length : Int) > s.f0.f0
    · rw [if_pos ha, decide_eq_true ha]
      rfl
    · rw [if_neg ha, decide_eq_false ha]
      by_cases hb : (s.f3.length : Int) > 2000
      · rw [decide_eq_true hb]
        rfl
      · rw [decide_eq_false hb]
        cases s.f2.all script_Right1B <;> rfl
  | d + 1, k, j, h, hk => by
    obtain ⟨k, rfl, hk'⟩ := peel (show d + (B + 1) + 1 ≤ k by omega)
    have hj : j < s.f1.length := by omega
    have hf := hs.fa
    rw [r33_Right.l0, if_pos (by omega), if_pos (by omega), rnode_eq, Option.bind_some, w64_step (by omega), Int.toNat_natCast, rright_l0 B hB s hs d k (j + 1) (by omega) hk', fltV]
    cases h1 : isV s.f0.f0 (rd s.f1 (j : Int)) with
    | false => rw [if_neg (by decide)]; rfl
    | true =>
      rw [if_pos rfl, if_pos (by omega), rin_eq _ _ (by rw [List.length_take]; omega) k (by rw [List.length_take]; omega), Option.bind_some]
      cases h2 : (s.f1.take j).contains (rd s.f1 (j : Int)) with
      | true => rw [if_pos rfl]; rfl
      | false => rw [if_neg (by decide)]; rfl
theorem rright_eq (k : Nat) (hk : 8400 ≤ k) (s : SC) (hs : Few 2900 s) : r33_Right.f k s.f0.f0 s.f0.f1 s.f0.f2 s.f0.f3 s.f0.f4 s.f0.f5 s.f0.f6 s.f0.f7 s.f0.f8 s.f0.f9 s.f0.f10 s.f1 s.f2 s.f3 = some (rightV s) := by
  have hf := hs.fa
  unfold r33_Right.f rightV
  rw [ref_right_eq (k := k) (hk := by omega), Option.bind_some, Option.bind_some]
  by_cases hr : rightE s.f0.f0 s.f0.f1 s.f0.f2 s.f0.f3 s.f0.f4 s.f0.f5 s.f0.f6 s.f0.f7 s.f0.f8 s.f0.f9 s.f0.f10 = 0
  · rw [if_pos hr, if_pos hr]
    exact rright_l0 8200 (by omega) s hs s.f1.length k 0 (by omega) (by omega)
  · rw [if_neg hr, if_neg hr]
theorem few_l2 (s : SC) (i : Int) (X : List BU) (hX : X.length ≤ 1000000) (K : Nat) (R : Option Bool) (hR : ∀ k', K ≤ k' → r33_Few.l1 k' (wrap64 (i + 1)) s.f0.f0 s.f0.f1 s.f0.f2 s.f0.f3 s.f0.f4 s.f0.f5 s.f0.f6 s.f0.f7 s.f0.f8 s.f0.f9 s.f0.f10 s.f1 s.f2 s.f3 = R) : ∀ (d k j : Nat), j + d = X.length → d + 1 + K ≤ k → r33_Few.l2 k i X (X.length : Int) (j : Int) s.f0.f0 s.f0.f1 s.f0.f2 s.f0.f3 s.f0.f4 s.f0.f5 s.f0.f6 s.f0.f7 s.f0.f8 s.f0.f9 s.f0.f10 s.f1 s.f2 s.f3 = (if (X.drop j).all (fun x => decide ((x.f1.size : Int) ≤ 16000)) = true then R else some false)
  | 0, k, j, h, hk => by
    obtain ⟨k, rfl, hk'⟩ := peel (show K + 1 ≤ k by omega)
    rw [r33_Few.l2, if_neg (by omega), List.drop_of_length_le (by omega)]
    rw [hR k hk']
    rfl
  | d + 1, k, j, h, hk => by
    obtain ⟨k, rfl, hk'⟩ := peel (show d + 1 + K + 1 ≤ k by omega)
    have hj : j < X.length := by omega
    have ih := few_l2 s i X hX K R hR d k (j + 1) (by omega) (by omega)
    rw [r33_Few.l2, if_pos (by omega), if_pos (by omega), if_pos (by omega), rd_burst X j hj, w64_step (by omega), List.drop_eq_getElem_cons hj, List.all_cons]
    by_cases hb : ((X[j].f1).size : Int) > 16000
    · have hp : decide ((X[j].f1.size : Int) ≤ 16000) = false := decide_eq_false (by omega)
      rw [if_pos hb, hp]
      rfl
    · have hp : decide ((X[j].f1.size : Int) ≤ 16000) = true := decide_eq_true (by omega)
      rw [if_neg hb, ih, hp, Bool.true_and]
theorem few_l1 (s : SC) (hT : s.f3.length ≤ 100000) : ∀ (d i : Nat), i + d = s.f3.length → ∃ b, (∀ k, 104 * d + 1 ≤ k → r33_Few.l1 k (i : Int) s.f0.f0 s.f0.f1 s.f0.f2 s.f0.f3 s.f0.f4 s.f0.f5 s.f0.f6 s.f0.f7 s.f0.f8 s.f0.f9 s.f0.f10 s.f1 s.f2 s.f3 = some b) ∧ (b = true → ∀ t ∈ s.f3.drop i, Tiny t)
  | 0, i, h => by
    refine ⟨true, fun k hk => ?_, fun _ t ht => ?_⟩
    · obtain ⟨k, rfl, _⟩ := peel (show 0 + 1 ≤ k by omega)
      rw [r33_Few.l1, if_neg (by omega)]
    · rw [List.drop_of_length_le (by omega)] at ht
      cases ht
  | d + 1, i, h => by
    have hj : i < s.f3.length := by omega
    have hbad : ∀ k x, 1 ≤ k → r33_Few.j3 k x true s.f0.f0 s.f0.f1 s.f0.f2 s.f0.f3 s.f0.f4 s.f0.f5 s.f0.f6 s.f0.f7 s.f0.f8 s.f0.f9 s.f0.f10 s.f1 s.f2 s.f3 s.f3[i].f0 s.f3[i].f1 s.f3[i].f2 s.f3[i].f3 s.f3[i].f4 s.f3[i].f5 = some false := fun k x hk => by
      obtain ⟨k, rfl, _⟩ := peel hk
      rw [r33_Few.j3, if_pos rfl]
    have hstep : ∀ k, 104 * (d + 1) + 1 ≤ k → ∃ k', k = k' + 1 ∧ 104 * d + 104 ≤ k' := fun k hk => ⟨k - 1, by omega, by omega⟩
    by_cases g0 : (s.f3[i].f0.length : Int) > 100
    · refine ⟨false, fun k hk => ?_, fun e => by cases e⟩
      obtain ⟨k, rfl, hk⟩ := hstep k hk
      rw [r33_Few.l1, if_pos (by omega), if_pos (by omega), rd_tick s.f3 i hj, if_pos g0, hbad k _ (by omega)]
    by_cases g1 : (s.f3[i].f1.length : Int) > 400
    · refine ⟨false, fun k hk => ?_, fun e => by cases e⟩
      obtain ⟨k, rfl, hk⟩ := hstep k hk
      rw [r33_Few.l1, if_pos (by omega), if_pos (by omega), rd_tick s.f3 i hj, if_neg g0, if_pos g1, hbad k _ (by omega)]
    by_cases g2 : (s.f3[i].f2.length : Int) > 100
    · refine ⟨false, fun k hk => ?_, fun e => by cases e⟩
      obtain ⟨k, rfl, hk⟩ := hstep k hk
      rw [r33_Few.l1, if_pos (by omega), if_pos (by omega), rd_tick s.f3 i hj, if_neg g0, if_neg g1, if_pos g2, hbad k _ (by omega)]
    by_cases g3 : (s.f3[i].f3.length : Int) > 100
    · refine ⟨false, fun k hk => ?_, fun e => by cases e⟩
      obtain ⟨k, rfl, hk⟩ := hstep k hk
      rw [r33_Few.l1, if_pos (by omega), if_pos (by omega), rd_tick s.f3 i hj, if_neg g0, if_neg g1, if_neg g2, if_pos g3, hbad k _ (by omega)]
    by_cases g4 : (s.f3[i].f4.length : Int) > 100
    · refine ⟨false, fun k hk => ?_, fun e => by cases e⟩
      obtain ⟨k, rfl, hk⟩ := hstep k hk
      rw [r33_Few.l1, if_pos (by omega), if_pos (by omega), rd_tick s.f3 i hj, if_neg g0, if_neg g1, if_neg g2, if_neg g3, if_pos g4, hbad k _ (by omega)]
    by_cases g5 : (s.f3[i].f5.length : Int) > 100
    · refine ⟨false, fun k hk => ?_, fun e => by cases e⟩
      obtain ⟨k, rfl, hk⟩ := hstep k hk
      rw [r33_Few.l1, if_pos (by omega), if_pos (by omega), rd_tick s.f3 i hj, if_neg g0, if_neg g1, if_neg g2, if_neg g3, if_neg g4, decide_eq_true g5, hbad k _ (by omega)]
    obtain ⟨b, hb1, hb2⟩ := few_l1 s hT d (i + 1) (by omega)
    have hgo : ∀ k, 104 * (d + 1) + 1 ≤ k → r33_Few.l1 k (i : Int) s.f0.f0 s.f0.f1 s.f0.f2 s.f0.f3 s.f0.f4 s.f0.f5 s.f0.f6 s.f0.f7 s.f0.f8 s.f0.f9 s.f0.f10 s.f1 s.f2 s.f3 = if s.f3[i].f3.all (fun x => decide ((x.f1.size : Int) ≤ 16000)) = true then some b else some false := fun k hk => by
      obtain ⟨k, rfl, hk⟩ := hstep k hk
      rw [r33_Few.l1, if_pos (by omega), if_pos (by omega), rd_tick s.f3 i hj, if_neg g0, if_neg g1, if_neg g2, if_neg g3, if_neg g4, decide_eq_false g5]
      obtain ⟨k, rfl, hk2⟩ := peel (show 104 * d + 103 + 1 ≤ k by omega)
      rw [r33_Few.j3, if_neg (by decide)]
      have := few_l2 s i s.f3[i].f3 (by omega) (104 * d + 1) _ (fun k' hk' => by rw [w64_step (by omega)]; exact hb1 k' hk') s.f3[i].f3.length k 0 (by omega) (by omega)
      rw [List.drop_zero] at this
      exact this
    cases hq : s.f3[i].f3.all (fun x => decide ((x.f1.size : Int) ≤ 16000)) with
    | false => exact ⟨false, fun k hk => by rw [hgo k hk, hq]; rfl, fun e => by cases e⟩
    | true =>
      refine ⟨b, fun k hk => by rw [hgo k hk, hq]; rfl, fun e t hm => ?_⟩
      rw [List.drop_eq_getElem_cons hj] at hm
      rcases List.mem_cons.1 hm with e' | e'
      · rw [e']; exact ⟨by omega, by omega, by omega, by omega, by omega, by omega⟩
      · exact hb2 e t e'
theorem few_l0 (s : SC) (hT : s.f3.length ≤ 100000) (hI : s.f2.length ≤ 100000) : ∀ (d k j : Nat), j + d = s.f2.length → d + 1 + (104 * s.f3.length + 1) ≤ k → ∃ b, r33_Few.l0 k (j : Int) s.f0.f0 s.f0.f1 s.f0.f2 s.f0.f3 s.f0.f4 s.f0.f5 s.f0.f6 s.f0.f7 s.f0.f8 s.f0.f9 s.f0.f10 s.f1 s.f2 s.f3 = some b ∧ (b = true → ∀ t ∈ s.f3, Tiny t)
  | 0, k, j, h, hk => by
    obtain ⟨k, rfl, hk'⟩ := peel (show 104 * s.f3.length + 1 + 1 ≤ k by omega)
    obtain ⟨b, h1, h2⟩ := few_l1 s hT s.f3.length 0 (by omega)
    exact ⟨b, by rw [r33_Few.l0, if_neg (by omega)]; exact h1 k (by omega), h2⟩
  | d + 1, k, j, h, hk => by
    obtain ⟨k, rfl, hk'⟩ := peel (show d + 1 + (104 * s.f3.length + 1) + 1 ≤ k by omega)
    rw [r33_Few.l0, if_pos (by omega), if_pos (by omega)]
    by_cases g : ((rdOf ByteArray.empty s.f2 (j : Int)).size : Int) > 16000
    · exact ⟨false, by rw [if_pos g], fun e => by cases e⟩
    · rw [if_neg g, w64_step (by omega)]
      exact few_l0 s hT hI d k (j + 1) (by omega) hk'
/-- Whether a script is short enough is told; and if it is, it is. -/
theorem few_eq (s : SC) (n : Nat) (hn : n ≤ 2900) (k : Nat) (hk : 400000 ≤ k) : ∃ b, r33_Few.f k s.f0.f0 s.f0.f1 s.f0.f2 s.f0.f3 s.f0.f4 s.f0.f5 s.f0.f6 s.f0.f7 s.f0.f8 s.f0.f9 s.f0.f10 s.f1 s.f2 s.f3 (n : Int) = some b ∧ (b = true → Few n s) := by
  have hbad : r33_Few.j0 k true s.f0.f0 s.f0.f1 s.f0.f2 s.f0.f3 s.f0.f4 s.f0.f5 s.f0.f6 s.f0.f7 s.f0.f8 s.f0.f9 s.f0.f10 s.f1 s.f2 s.f3 = some false := by
    obtain ⟨k, rfl, _⟩ := peel (show 0 + 1 ≤ k by omega)
    rw [r33_Few.j0, if_pos rfl]
  unfold r33_Few.f
  by_cases g0 : (s.f3.length : Int) > n
  · exact ⟨false, by rw [if_pos g0, hbad], fun e => by cases e⟩
  by_cases g1 : (s.f0.f10.length : Int) > 100
  · exact ⟨false, by rw [if_neg g0, if_pos g1, hbad], fun e => by cases e⟩
  by_cases g2 : (s.f1.length : Int) > 100
  · exact ⟨false, by rw [if_neg g0, if_neg g1, if_pos g2, hbad], fun e => by cases e⟩
  by_cases g3 : (s.f2.length : Int) > 100
  · exact ⟨false, by rw [if_neg g0, if_neg g1, if_neg g2, decide_eq_true g3, hbad], fun e => by cases e⟩
  rw [if_neg g0, if_neg g1, if_neg g2, decide_eq_false g3]
  obtain ⟨k, rfl, hk'⟩ := peel (show 399999 + 1 ≤ k by omega)
  rw [r33_Few.j0, if_neg (by decide)]
  obtain ⟨b, h1, h2⟩ := few_l0 s (by omega) (by omega) s.f2.length k 0 (by omega) (by omega)
  exact ⟨b, h1, fun e => ⟨by omega, by omega, by omega, by omega, h2 e⟩⟩
theorem Few.to {n m : Nat} {s : SC} (h : Few n s) (hn : n ≤ m) : Few m s := ⟨Nat.le_trans h.tk hn, h.tb, h.fa, h.im, h.each⟩
end Go.Proofs.Ythdoghhmooodjaa.Facts
