import Derived.Test.YthdoghhmooodjaaZScriptCutsGn0
import Derived.Test.YthdoghhmooodjaaZScriptCutsGn7
import Derived.Test.YthdoghhmooodjaaZScriptCutsGn8
import Derived.Test.YthdoghhmooodjaaZScriptCutsGn9
import Derived.Test.YthdoghhmooodjaaZScriptCutsGn10
import Derived.Test.YthdoghhmooodjaaZScriptCutsGn12
import Derived.Test.YthdoghhmooodjaaZScriptCutsGn14
import Derived.Test.YthdoghhmooodjaaZScriptCutsGn15
import Derived.Test.YthdoghhmooodjaaZScriptCutsGn1
import Derived.Test.YthdoghhmooodjaaZScriptCutsRingFacts0
import Derived.Test.YthdoghhmooodjaaZScriptCutsCommon
import Derived.Test.YthdoghhmooodjaaZScriptCutsConfFacts
import Derived.Test.YthdoghhmooodjaaZScriptCutsBoundFacts
namespace Go.Proofs.Ythdoghhmooodjaa.Facts
open Go.RowKit Go.Proofs.Ythdoghhmooodjaa.Gn Go.Proofs.YthdoghhmooodjaaW.PrintWords Go.Proofs.YthdoghhmooodjaaW.PrintLast
set_option linter.unusedVariables false
set_option linter.unusedSimpArgs false
abbrev CF := S24
abbrev BU := S48
abbrev TK := S44
abbrev SC := S28
theorem rd_burst (xs : List BU) (i : Nat) (h : i < xs.length) : rd_T48 xs (i : Int) = xs[i] := by
  unfold rd_T48
  simp [List.getD_eq_getElem?_getD, h]
theorem rd_tick (xs : List TK) (i : Nat) (h : i < xs.length) : rd_T44 xs (i : Int) = xs[i] := by
  unfold rd_T44
  simp [List.getD_eq_getElem?_getD, h]
/-- How many nodes there are. -/
def clV (N : Int) : Int := if N < 0 then 0 else if 13 < N then 13 else N
theorem clV_bd (N : Int) : 0 ≤ clV N ∧ clV N ≤ 13 := by unfold clV; omega
theorem snodes_eq (k : Nat) (hk : 1 ≤ k) (c : CF) : script_nodes.f k c.f0 c.f1 c.f2 c.f3 c.f4 c.f5 c.f6 c.f7 c.f8 c.f9 c.f10 = some (clV c.f0) := by
  obtain ⟨k, rfl, _⟩ := peel hk
  unfold script_nodes.f num_Clamp.f clV
  by_cases h0 : c.f0 < 0
  · rw [if_pos h0, num_Clamp.j0, decide_eq_true h0, if_pos rfl, if_pos h0]
    rfl
  · rw [if_neg h0, num_Clamp.j0, if_neg (by decide), if_neg h0]
    by_cases h1 : c.f0 > 13
    · rw [if_pos h1, if_pos (show 13 < c.f0 from h1)]
      rfl
    · rw [if_neg h1, if_neg (show ¬ 13 < c.f0 from h1)]
      rfl
theorem sis_eq (k : Nat) (hk : 1 ≤ k) (c : CF) (n : Int) : script_is.f k c.f0 c.f1 c.f2 c.f3 c.f4 c.f5 c.f6 c.f7 c.f8 c.f9 c.f10 n = some (isV c.f0 n) := by
  obtain ⟨k, rfl, _⟩ := peel hk
  exact isV_eq k c.f0 c.f1 c.f2 c.f3 c.f4 c.f5 c.f6 c.f7 c.f8 c.f9 c.f10 n
/-- Is a number in a list: the program's and the reference's way. -/
theorem index_l0 (l : List Int) (x : Int) (hl : l.length ≤ 1000000) : ∀ (d k j : Nat), j + d = l.length → d + 1 ≤ k → ∃ r : Int, slices_Index_int_int.l0 k l x (l.length : Int) (j : Int) = some r ∧ decide (r ≥ 0) = (l.drop j).contains x
  | 0, k, j, h, hk => by
    obtain ⟨k, rfl, _⟩ := peel (show 0 + 1 ≤ k by omega)
    refine ⟨-1, by rw [slices_Index_int_int.l0, if_neg (by omega)], ?_⟩
    rw [List.drop_of_length_le (by omega)]
    rfl
  | d + 1, k, j, h, hk => by
    obtain ⟨k, rfl, hk'⟩ := peel hk
    have hj : j < l.length := by omega
    rw [slices_Index_int_int.l0, if_pos (by omega), if_pos (by omega), if_pos (by omega), rd_at l j hj, w64_step (by omega), List.drop_eq_getElem_cons hj]
    by_cases hx : x = l[j]
    · refine ⟨j, by rw [if_pos hx], ?_⟩
      have hx' : (x == l[j]) = true := by simpa using hx
      rw [decide_eq_true (show (j : Int) ≥ 0 by omega), List.contains_cons, hx', Bool.true_or]
    · obtain ⟨r, h1, h2⟩ := index_l0 l x hl d k (j + 1) (by omega) (by omega)
      refine ⟨r, by rw [if_neg hx]; exact h1, ?_⟩
      rw [h2]
      have hx' : (x == l[j]) = false := by simpa using hx
      rw [List.contains_cons, hx', Bool.false_or]
theorem contains_eq (l : List Int) (x : Int) (hl : l.length ≤ 1000000) (k : Nat) (hk : l.length + 1 ≤ k) : slices_Contains_int_int.f k l x = some (l.contains x) := by
  obtain ⟨r, h1, h2⟩ := index_l0 l x hl l.length k 0 (by omega) hk
  unfold slices_Contains_int_int.f slices_Index_int_int.f
  rw [show (0 : Int) = ((0 : Nat) : Int) from rfl, h1, Option.bind_some, show (((0 : Nat) : Int)) = 0 from rfl, h2, List.drop_zero]
/-- Are faulty nodes nodes, each named once. -/
def fltV (N : Int) (F : List Int) : Nat → Nat → Bool
  | 0, _ => true
  | d + 1, j => isV N (rd F (j : Int)) && (!(F.take j).contains (rd F (j : Int)) && fltV N F d (j + 1))
theorem sfaulty_l0 (s : SC) (hF : s.f1.length ≤ 1000) : ∀ (d k j : Nat), j + d = s.f1.length → d + 1102 ≤ k → script_faulty.l0 k s.f1 (s.f1.length : Int) (j : Int) s.f0.f0 s.f0.f1 s.f0.f2 s.f0.f3 s.f0.f4 s.f0.f5 s.f0.f6 s.f0.f7 s.f0.f8 s.f0.f9 s.f0.f10 s.f1 s.f2 s.f3 = some (fltV s.f0.f0 s.f1 d j)
  | 0, k, j, h, hk => by
    obtain ⟨k, rfl, _⟩ := peel (show 0 + 1 ≤ k by omega)
    rw [script_faulty.l0, if_neg (by omega)]
    rfl
  | d + 1, k, j, h, hk => by
    obtain ⟨k, rfl, hk'⟩ := peel (show d + 1102 + 1 ≤ k by omega)
    have hj : j < s.f1.length := by omega
    rw [script_faulty.l0, if_pos (by omega), if_pos (by omega), if_pos (by omega), sis_eq k (by omega), Option.bind_some, w64_step (by omega), Int.toNat_natCast, sfaulty_l0 s hF d k (j + 1) (by omega) (by omega), fltV]
    cases h1 : isV s.f0.f0 (rd s.f1 (j : Int)) with
    | false => rw [if_neg (by decide)]; rfl
    | true =>
      rw [if_pos rfl, if_pos (by omega), contains_eq _ _ (by rw [List.length_take]; omega) k (by rw [List.length_take]; omega), Option.bind_some]
      cases h2 : (s.f1.take j).contains (rd s.f1 (j : Int)) with
      | true => rw [if_pos rfl]; rfl
      | false => rw [if_neg (by decide)]; rfl
theorem snumbers_eq (l : List Int) (n : Int) : script_numbers.f l n = some (decide ((l.length : Int) ≤ n) && l.all script_numbers1B) := by
  unfold script_numbers.f script_every_numbers1.f
  by_cases h : (l.length : Int) ≤ n
  · rw [if_pos h, decide_eq_true h, Bool.true_and]
    rfl
  · rw [if_neg h, decide_eq_false h]
    rfl
/-- A tick of few things. -/
structure Tiny (t : TK) : Prop where
  h0 : t.f0.length ≤ 1000
  h1 : t.f1.length ≤ 1000
  h2 : t.f2.length ≤ 1000
  h3 : t.f3.length ≤ 1000
  h4 : t.f4.length ≤ 1000
  h5 : t.f5.length ≤ 1000
/-- Does it name only nodes that there are. -/
def namedV (N : Int) (t : TK) : Bool := t.f2.all (fun x => isV N x.f0 && isV N x.f1) && t.f4.all (fun x => isV N x.f0 && isV N x.f1) && t.f3.all (fun x => isV N x.f0) && t.f5.all (fun x => isV N x.f0)
theorem snamed_eq (c : CF) (t : TK) : script_named.f c.f0 c.f1 c.f2 c.f3 c.f4 c.f5 c.f6 c.f7 c.f8 c.f9 c.f10 t.f0 t.f1 t.f2 t.f3 t.f4 t.f5 = some (namedV c.f0 t) := rfl
/-- Are its bytes not too many. -/
def shortV (t : TK) : Bool := t.f2.all script_short1B && (t.f4.all script_short1B && t.f3.all script_short2B)
theorem sshort_eq (t : TK) : script_short.f t.f0 t.f1 t.f2 t.f3 t.f4 t.f5 = some (shortV t) := by
  unfold script_short.f script_every_short1.f script_every_short2.f shortV
  cases t.f2.all script_short1B <;> cases t.f4.all script_short1B <;> cases t.f3.all script_short2B <;> rfl
/-- Is it asked of each that it waits no longer than it may. -/
def waitV (t : TK) : Bool := t.f2.all script_tick1B && t.f4.all script_tick1B
def numsV (N : Int) (t : TK) : Bool := (decide ((t.f0.length : Int) ≤ N) && t.f0.all script_numbers1B) && (decide ((t.f1.length : Int) ≤ wrap64 (N * N)) && t.f1.all script_numbers1B) && waitV t
def fullV (t : TK) : Prop := (t.f2.length : Int) > 40 ∨ (t.f3.length : Int) > 40 ∨ (t.f4.length : Int) > 40 ∨ (t.f5.length : Int) > 40
instance (t : TK) : Decidable (fullV t) := by unfold fullV; infer_instance
/-- Why a tick can't be; 0 if it can. -/
def restV (N : Int) (t : TK) : Int := if namedV N t = true then (if shortV t = true then (if t.f5.all script_tick2B = true then 0 else 15) else 6) else 7
def tailV (N : Int) (t : TK) : Int := if fullV t then 9 else restV N t
def tickV (N : Int) (t : TK) : Int := if numsV N t = true then tailV N t else 2
theorem sfull_eq (t : TK) : script_full.f t.f0 t.f1 t.f2 t.f3 t.f4 t.f5 = some (decide (fullV t)) := by
  unfold script_full.f
  congr 1
  rw [decide_eq_decide]
  unfold fullV mx
  omega
theorem stick_j0 (k : Nat) (hk : 1 ≤ k) (c : CF) (t : TK) (b : Bool) : script_tick.j0 k b c.f0 c.f1 c.f2 c.f3 c.f4 c.f5 c.f6 c.f7 c.f8 c.f9 c.f10 t.f0 t.f1 t.f2 t.f3 t.f4 t.f5 = some (if b = true then 2 else tailV c.f0 t) := by
  obtain ⟨k, rfl, _⟩ := peel hk
  rw [script_tick.j0]
  cases b with
  | true => rfl
  | false =>
    show _ = some (tailV c.f0 t)
    unfold tailV restV
    rw [if_neg (by decide), sfull_eq, Option.bind_some]
    by_cases h : fullV t
    · rw [if_pos (decide_eq_true h), if_pos h]
    · rw [if_neg (by rw [decide_eq_false h]; decide), if_neg h, snamed_eq, Option.bind_some]
      cases namedV c.f0 t with
      | false => rfl
      | true =>
        rw [if_pos rfl, if_pos rfl, sshort_eq, Option.bind_some]
        cases shortV t with
        | false => rfl
        | true =>
          rw [if_pos rfl, if_pos rfl, script_every_tick2.f, Option.bind_some]
          cases t.f5.all script_tick2B <;> rfl
theorem stick_eq (k : Nat) (hk : 1 ≤ k) (c : CF) (t : TK) : script_tick.f k c.f0 c.f1 c.f2 c.f3 c.f4 c.f5 c.f6 c.f7 c.f8 c.f9 c.f10 t.f0 t.f1 t.f2 t.f3 t.f4 t.f5 = some (tickV c.f0 t) := by
  unfold script_tick.f script_every_tick1.f
  simp only [stick_j0 k hk, snumbers_eq, Option.bind_some]
  unfold tickV numsV waitV
  cases (decide ((t.f0.length : Int) ≤ c.f0) && t.f0.all script_numbers1B) <;> cases (decide ((t.f1.length : Int) ≤ wrap64 (c.f0 * c.f0)) && t.f1.all script_numbers1B) <;> cases t.f2.all script_tick1B <;> cases t.f4.all script_tick1B <;> rfl
end Go.Proofs.Ythdoghhmooodjaa.Facts
