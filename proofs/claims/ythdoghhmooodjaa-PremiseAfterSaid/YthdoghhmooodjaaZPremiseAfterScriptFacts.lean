import Derived.Test.YthdoghhmooodjaaZPremiseAfterGn0
import Derived.Test.YthdoghhmooodjaaZPremiseAfterGn7
import Derived.Test.YthdoghhmooodjaaZPremiseAfterGn10
import Derived.Test.YthdoghhmooodjaaZPremiseAfterGn11
import Derived.Test.YthdoghhmooodjaaZPremiseAfterGn14
import Derived.Test.YthdoghhmooodjaaZPremiseAfterGn15
import Derived.Test.YthdoghhmooodjaaZPremiseAfterGn27
import Derived.Test.YthdoghhmooodjaaZPremiseAfterGn31
import Derived.Test.YthdoghhmooodjaaZPremiseAfterGn32
import Derived.Test.YthdoghhmooodjaaZPremiseAfterGn33
import Derived.Test.YthdoghhmooodjaaZPremiseAfterGn34
import Derived.Test.YthdoghhmooodjaaZPremiseAfterRingFacts0
import Derived.Test.YthdoghhmooodjaaZPremiseAfterBoundFacts
namespace Go.Proofs.Ythdoghhmooodjaa.Facts
open Go.RowKit Go.Proofs.Ythdoghhmooodjaa.Gn Go.Proofs.YthdoghhmooodjaaW.PrintWords Go.Proofs.YthdoghhmooodjaaW.PrintLast
set_option linter.unusedVariables false
set_option linter.unusedSimpArgs false
abbrev CF := S24
abbrev SD := S74
abbrev BU := S48
abbrev WR := S81
abbrev TK := S44
abbrev SC := S28
theorem rd_send (xs : List SD) (i : Nat) (h : i < xs.length) : rd_T74 xs (i : Int) = xs[i] := by
  unfold rd_T74
  simp [List.getD_eq_getElem?_getD, h]
theorem rd_burst (xs : List BU) (i : Nat) (h : i < xs.length) : rd_T48 xs (i : Int) = xs[i] := by
  unfold rd_T48
  simp [List.getD_eq_getElem?_getD, h]
theorem rd_write (xs : List WR) (i : Nat) (h : i < xs.length) : rd_T81 xs (i : Int) = xs[i] := by
  unfold rd_T81
  simp [List.getD_eq_getElem?_getD, h]
theorem rd_tick (xs : List TK) (i : Nat) (h : i < xs.length) : rd_T44 xs (i : Int) = xs[i] := by
  unfold rd_T44
  simp [List.getD_eq_getElem?_getD, h]
theorem rd_str (xs : List ByteArray) (i : Nat) (h : i < xs.length) : rdOf ByteArray.empty xs (i : Int) = xs[i] := by
  unfold rdOf
  simp [List.getD_eq_getElem?_getD, h]
/-- How many nodes there are. -/
def clV (N : Int) : Int := if N < 0 then 0 else if 13 < N then 13 else N
theorem clV_bd (N : Int) : 0 ≤ clV N ∧ clV N ≤ 13 := by unfold clV; omega
theorem snodes_eq (k : Nat) (hk : 1 ≤ k) (c : CF) : script_nodes.f k c.f0 c.f1 c.f2 c.f3 c.f4 c.f5 c.f6 c.f7 c.f8 c.f9 c.f10 = some (clV c.f0) := by
  obtain ⟨k, rfl, _⟩ := peel hk
  unfold script_nodes.f num_Clamp.f clV
  by_cases h0 : c.f0 < 0
  · rw [if_pos h0, num_Clamp.j0, decide_eq_true h0, if_pos rfl, if_pos h0]
    rfl
  · rw [if_neg h0, num_Clamp.j0, if_neg (by decide), if_neg h0]
    by_cases h1 : c.f0 > 13
    · rw [if_pos h1, if_pos (show 13 < c.f0 from h1)]
      rfl
    · rw [if_neg h1, if_neg (show ¬ 13 < c.f0 from h1)]
      rfl
theorem sis_eq (k : Nat) (hk : 1 ≤ k) (c : CF) (n : Int) : script_is.f k c.f0 c.f1 c.f2 c.f3 c.f4 c.f5 c.f6 c.f7 c.f8 c.f9 c.f10 n = some (isV c.f0 n) := by
  obtain ⟨k, rfl, _⟩ := peel hk
  exact isV_eq k c.f0 c.f1 c.f2 c.f3 c.f4 c.f5 c.f6 c.f7 c.f8 c.f9 c.f10 n
theorem rclamp_eq (N : Int) : r01_Clamp.f N 0 13 = some (clV N) := by
  unfold r01_Clamp.f clV mn
  by_cases h0 : N < 0
  · rw [if_pos h0, if_pos h0]
  · rw [if_neg h0, if_neg h0, if_neg (by decide)]
theorem rnode_eq (c : CF) (n : Int) : r33_node.f c.f0 c.f1 c.f2 c.f3 c.f4 c.f5 c.f6 c.f7 c.f8 c.f9 c.f10 n = some (isV c.f0 n) := by
  unfold r33_node.f
  rw [rclamp_eq, Option.bind_some]
  show _ = some (decide (0 ≤ n) && decide (n < clV c.f0))
  by_cases h : n ≥ 0
  · rw [if_pos h, decide_eq_true (show 0 ≤ n from h), Bool.true_and]
  · rw [if_neg h, decide_eq_false (show ¬ 0 ≤ n from h), Bool.false_and]
/-- Is a number in a list: the program's and the reference's way. -/
theorem index_l0 (l : List Int) (x : Int) (hl : l.length ≤ 1000000) : ∀ (d k j : Nat), j + d = l.length → d + 1 ≤ k → ∃ r : Int, slices_Index_int_int.l0 k l x (l.length : Int) (j : Int) = some r ∧ decide (r ≥ 0) = (l.drop j).contains x
  | 0, k, j, h, hk => by
    obtain ⟨k, rfl, _⟩ := peel (show 0 + 1 ≤ k by omega)
    refine ⟨-1, by rw [slices_Index_int_int.l0, if_neg (by omega)], ?_⟩
    rw [List.drop_of_length_le (by omega)]
    rfl
  | d + 1, k, j, h, hk => by
    obtain ⟨k, rfl, hk'⟩ := peel hk
    have hj : j < l.length := by omega
    rw [slices_Index_int_int.l0, if_pos (by omega), if_pos (by omega), if_pos (by omega), rd_at l j hj, w64_step (by omega), List.drop_eq_getElem_cons hj]
    by_cases hx : x = l[j]
    · refine ⟨j, by rw [if_pos hx], ?_⟩
      have hx' : (x == l[j]) = true := by simpa using hx
      rw [decide_eq_true (show (j : Int) ≥ 0 by omega), List.contains_cons, hx', Bool.true_or]
    · obtain ⟨r, h1, h2⟩ := index_l0 l x hl d k (j + 1) (by omega) (by omega)
      refine ⟨r, by rw [if_neg hx]; exact h1, ?_⟩
      rw [h2]
      have hx' : (x == l[j]) = false := by simpa using hx
      rw [List.contains_cons, hx', Bool.false_or]
theorem contains_eq (l : List Int) (x : Int) (hl : l.length ≤ 1000000) (k : Nat) (hk : l.length + 1 ≤ k) : slices_Contains_int_int.f k l x = some (l.contains x) := by
  obtain ⟨r, h1, h2⟩ := index_l0 l x hl l.length k 0 (by omega) hk
  unfold slices_Contains_int_int.f slices_Index_int_int.f
  rw [show (0 : Int) = ((0 : Nat) : Int) from rfl, h1, Option.bind_some, show (((0 : Nat) : Int)) = 0 from rfl, h2, List.drop_zero]
theorem rin_l0 (l : List Int) (x : Int) (hl : l.length ≤ 1000000) : ∀ (d k j : Nat), j + d = l.length → d + 1 ≤ k → r14_In.l0 k l x (j : Int) = some ((l.drop j).contains x)
  | 0, k, j, h, hk => by
    obtain ⟨k, rfl, _⟩ := peel (show 0 + 1 ≤ k by omega)
    rw [r14_In.l0, if_neg (by omega), List.drop_of_length_le (by omega)]
    rfl
  | d + 1, k, j, h, hk => by
    obtain ⟨k, rfl, hk'⟩ := peel hk
    have hj : j < l.length := by omega
    rw [r14_In.l0, if_pos (by omega), if_pos (by omega), rd_at l j hj, w64_step (by omega), List.drop_eq_getElem_cons hj, List.contains_cons]
    by_cases hx : l[j] = x
    · rw [if_pos hx, hx]
      simp
    · have hx' : (x == l[j]) = false := by simpa using fun e => hx e.symm
      rw [if_neg hx, hx', Bool.false_or, rin_l0 l x hl d k (j + 1) (by omega) (by omega)]
theorem rin_eq (l : List Int) (x : Int) (hl : l.length ≤ 1000000) (k : Nat) (hk : l.length + 1 ≤ k) : r14_In.f k l x = some (l.contains x) := by
  unfold r14_In.f
  exact rin_l0 l x hl l.length k 0 (by omega) hk
/-- Are faulty nodes nodes, each named once. -/
def fltV (N : Int) (F : List Int) : Nat → Nat → Bool
  | 0, _ => true
  | d + 1, j => isV N (rd F (j : Int)) && (!(F.take j).contains (rd F (j : Int)) && fltV N F d (j + 1))
theorem sfaulty_l0 (s : SC) (hF : s.f1.length ≤ 1000) : ∀ (d k j : Nat), j + d = s.f1.length → d + 1102 ≤ k → script_faulty.l0 k s.f1 (s.f1.length : Int) (j : Int) s.f0.f0 s.f0.f1 s.f0.f2 s.f0.f3 s.f0.f4 s.f0.f5 s.f0.f6 s.f0.f7 s.f0.f8 s.f0.f9 s.f0.f10 s.f1 s.f2 s.f3 = some (fltV s.f0.f0 s.f1 d j)
  | 0, k, j, h, hk => by
    obtain ⟨k, rfl, _⟩ := peel (show 0 + 1 ≤ k by omega)
    rw [script_faulty.l0, if_neg (by omega)]
    rfl
  | d + 1, k, j, h, hk => by
    obtain ⟨k, rfl, hk'⟩ := peel (show d + 1102 + 1 ≤ k by omega)
    have hj : j < s.f1.length := by omega
    rw [script_faulty.l0, if_pos (by omega), if_pos (by omega), if_pos (by omega), sis_eq k (by omega), Option.bind_some, w64_step (by omega), Int.toNat_natCast, sfaulty_l0 s hF d k (j + 1) (by omega) (by omega), fltV]
    cases h1 : isV s.f0.f0 (rd s.f1 (j : Int)) with
    | false => rw [if_neg (by decide)]; rfl
    | true =>
      rw [if_pos rfl, if_pos (by omega), contains_eq _ _ (by rw [List.length_take]; omega) k (by rw [List.length_take]; omega), Option.bind_some]
      cases h2 : (s.f1.take j).contains (rd s.f1 (j : Int)) with
      | true => rw [if_pos rfl]; rfl
      | false => rw [if_neg (by decide)]; rfl
theorem within_l0 (n : Int) (X : List Int) (hX : X.length ≤ 1000000) : ∀ (d k j : Nat), j + d = X.length → d + 1 ≤ k → r33_within.l0 k X (j : Int) = (if (X.drop j).all (script_numbers1B) = true then some true else some false)
  | 0, k, j, h, hk => by
    obtain ⟨k, rfl, hk'⟩ := peel (show 0 + 1 ≤ k by omega)
    rw [r33_within.l0, if_neg (by omega), List.drop_of_length_le (by omega)]
    rfl
  | d + 1, k, j, h, hk => by
    obtain ⟨k, rfl, hk'⟩ := peel (show d + 1 + 1 ≤ k by omega)
    have hj : j < X.length := by omega
    have ih := within_l0 n X hX d k (j + 1) (by omega) (by omega)
    rw [r33_within.l0, if_pos (by omega), if_pos (by omega), rd_at X j hj, w64_step (by omega), List.drop_eq_getElem_cons hj, List.all_cons]
    by_cases h0 : X[j] < 0
    · have hp : script_numbers1B X[j] = false := by unfold script_numbers1B; simp; omega
      rw [if_pos h0, hp]
      rfl
    · by_cases h1 : X[j] > 65535
      · have hp : script_numbers1B X[j] = false := by unfold script_numbers1B; simp; omega
        rw [if_neg h0, if_pos h1, hp]
        rfl
      · have hp : script_numbers1B X[j] = true := by unfold script_numbers1B; simp; omega
        rw [if_neg h0, if_neg h1, ih, hp, Bool.true_and]
theorem rwithin_eq (l : List Int) (n : Int) (hl : l.length ≤ 1000000) (k : Nat) (hk : l.length + 1 ≤ k) : r33_within.f k l n = some (decide ((l.length : Int) ≤ n) && l.all script_numbers1B) := by
  unfold r33_within.f
  by_cases h : (l.length : Int) > n
  · rw [if_pos h, decide_eq_false (by omega)]
    rfl
  · have := within_l0 n l hl l.length k 0 (by omega) hk
    rw [if_neg h, show (0 : Int) = ((0 : Nat) : Int) from rfl, this, List.drop_zero, decide_eq_true (by omega), Bool.true_and]
    cases l.all script_numbers1B <;> rfl
theorem snumbers_eq (l : List Int) (n : Int) : script_numbers.f l n = some (decide ((l.length : Int) ≤ n) && l.all script_numbers1B) := by
  unfold script_numbers.f script_every_numbers1.f
  by_cases h : (l.length : Int) ≤ n
  · rw [if_pos h, decide_eq_true h, Bool.true_and]
    rfl
  · rw [if_neg h, decide_eq_false h]
    rfl
theorem waits_l1 (B : Nat) (hB : B ≤ 1000000) (X : List SD) (hX : X.length ≤ 1000000) : ∀ (d k j : Nat) (acc : List Int), j + d = X.length → d + 1 ≤ k → acc.length ≤ j + B → r33_waits.l1 k acc X (X.length : Int) (j : Int) = some (acc ++ (X.drop j).map (·.f2))
  | 0, k, j, acc, h, hk, ha => by
    obtain ⟨k, rfl, _⟩ := peel (show 0 + 1 ≤ k by omega)
    rw [r33_waits.l1, if_neg (by omega), List.drop_of_length_le (by omega)]
    simp
  | d + 1, k, j, acc, h, hk, ha => by
    obtain ⟨k, rfl, hk'⟩ := peel hk
    have hj : j < X.length := by omega
    rw [r33_waits.l1, if_pos (by omega), if_pos (by omega), if_pos (by omega), if_pos (by omega), rd_send X j hj, w64_step (by omega), waits_l1 B hB X hX d k (j + 1) _ (by omega) (by omega) (by simp; omega), List.drop_eq_getElem_cons hj, List.map_cons, List.append_assoc]
    rfl
theorem waits_l0 (t : TK) (X : List SD) (hX : X.length ≤ 1000000) (h4 : t.f4.length ≤ 1000000) : ∀ (d k j : Nat) (acc : List Int), j + d = X.length → d + 1 + (t.f4.length + 1) ≤ k → acc.length ≤ j → r33_waits.l0 k acc X (X.length : Int) (j : Int) t.f0 t.f1 t.f2 t.f3 t.f4 t.f5 = some (acc ++ (X.drop j).map (·.f2) ++ t.f4.map (·.f2))
  | 0, k, j, acc, h, hk, ha => by
    obtain ⟨k, rfl, hk'⟩ := peel (show t.f4.length + 1 + 1 ≤ k by omega)
    have := waits_l1 X.length hX t.f4 h4 t.f4.length k 0 acc (by omega) (by omega) (by omega)
    rw [r33_waits.l0, if_neg (by omega), List.drop_of_length_le (by omega)]
    refine (show _ = _ from this).trans ?_
    simp
  | d + 1, k, j, acc, h, hk, ha => by
    obtain ⟨k, rfl, hk'⟩ := peel (show d + 1 + (t.f4.length + 1) + 1 ≤ k by omega)
    have hj : j < X.length := by omega
    rw [r33_waits.l0, if_pos (by omega), if_pos (by omega), if_pos (by omega), if_pos (by omega), rd_send X j hj, w64_step (by omega), waits_l0 t X hX h4 d k (j + 1) _ (by omega) (by omega) (by simp; omega), List.drop_eq_getElem_cons hj, List.map_cons, List.append_assoc]
    simp
theorem waits_eq (t : TK) (h2 : t.f2.length ≤ 1000) (h4 : t.f4.length ≤ 1000) (k : Nat) (hk : 3000 ≤ k) : r33_waits.f k t.f0 t.f1 t.f2 t.f3 t.f4 t.f5 = some (t.f2.map (·.f2) ++ t.f4.map (·.f2)) := by
  unfold r33_waits.f
  have := waits_l0 t t.f2 (by omega) (by omega) t.f2.length k 0 [] (by omega) (by omega) (by simp)
  rw [show (0 : Int) = ((0 : Nat) : Int) from rfl, this]
  simp
theorem nodes_l3 (c : CF) (X : List WR) (hX : X.length ≤ 1000000) : ∀ (d k j : Nat), j + d = X.length → d + 1 ≤ k → r33_nodes.l3 k X (X.length : Int) (j : Int) c.f0 c.f1 c.f2 c.f3 c.f4 c.f5 c.f6 c.f7 c.f8 c.f9 c.f10 = (if (X.drop j).all (fun x => isV c.f0 x.f0) = true then some true else some false)
  | 0, k, j, h, hk => by
    obtain ⟨k, rfl, hk'⟩ := peel (show 0 + 1 ≤ k by omega)
    rw [r33_nodes.l3, if_neg (by omega), List.drop_of_length_le (by omega)]
    rfl
  | d + 1, k, j, h, hk => by
    obtain ⟨k, rfl, hk'⟩ := peel (show d + 1 + 1 ≤ k by omega)
    have hj : j < X.length := by omega
    have ih := nodes_l3 c X hX d k (j + 1) (by omega) (by omega)
    rw [r33_nodes.l3, if_pos (by omega), if_pos (by omega), if_pos (by omega), rd_write X j hj, w64_step (by omega), List.drop_eq_getElem_cons hj, List.all_cons]
    rw [rnode_eq, Option.bind_some]
    cases h1 : isV c.f0 X[j].f0 with
    | false => rw [if_neg (by decide)]; simp
    | true => rw [if_pos rfl, ih]; simp
theorem nodes_l2 (c : CF) (t : TK) (X : List BU) (hX : X.length ≤ 1000000) (K : Nat) (R : Option Bool) (hR : ∀ k', K ≤ k' → r33_nodes.l3 k' t.f5 (t.f5.length : Int) 0 c.f0 c.f1 c.f2 c.f3 c.f4 c.f5 c.f6 c.f7 c.f8 c.f9 c.f10 = R) : ∀ (d k j : Nat), j + d = X.length → d + 1 + K ≤ k → r33_nodes.l2 k X (X.length : Int) (j : Int) c.f0 c.f1 c.f2 c.f3 c.f4 c.f5 c.f6 c.f7 c.f8 c.f9 c.f10 t.f0 t.f1 t.f2 t.f3 t.f4 t.f5 = (if (X.drop j).all (fun x => isV c.f0 x.f0) = true then R else some false)
  | 0, k, j, h, hk => by
    obtain ⟨k, rfl, hk'⟩ := peel (show K + 1 ≤ k by omega)
    rw [r33_nodes.l2, if_neg (by omega), List.drop_of_length_le (by omega)]
    rw [hR k hk']
    rfl
  | d + 1, k, j, h, hk => by
    obtain ⟨k, rfl, hk'⟩ := peel (show d + 1 + K + 1 ≤ k by omega)
    have hj : j < X.length := by omega
    have ih := nodes_l2 c t X hX K R hR d k (j + 1) (by omega) (by omega)
    rw [r33_nodes.l2, if_pos (by omega), if_pos (by omega), if_pos (by omega), rd_burst X j hj, w64_step (by omega), List.drop_eq_getElem_cons hj, List.all_cons]
    rw [rnode_eq, Option.bind_some]
    cases h1 : isV c.f0 X[j].f0 with
    | false => rw [if_neg (by decide)]; simp
    | true => rw [if_pos rfl, ih]; simp
theorem nodes_l1 (c : CF) (t : TK) (X : List SD) (hX : X.length ≤ 1000000) (K : Nat) (R : Option Bool) (hR : ∀ k', K ≤ k' → r33_nodes.l2 k' t.f3 (t.f3.length : Int) 0 c.f0 c.f1 c.f2 c.f3 c.f4 c.f5 c.f6 c.f7 c.f8 c.f9 c.f10 t.f0 t.f1 t.f2 t.f3 t.f4 t.f5 = R) : ∀ (d k j : Nat), j + d = X.length → d + 1 + K ≤ k → r33_nodes.l1 k X (X.length : Int) (j : Int) c.f0 c.f1 c.f2 c.f3 c.f4 c.f5 c.f6 c.f7 c.f8 c.f9 c.f10 t.f0 t.f1 t.f2 t.f3 t.f4 t.f5 = (if (X.drop j).all (fun x => isV c.f0 x.f0 && isV c.f0 x.f1) = true then R else some false)
  | 0, k, j, h, hk => by
    obtain ⟨k, rfl, hk'⟩ := peel (show K + 1 ≤ k by omega)
    rw [r33_nodes.l1, if_neg (by omega), List.drop_of_length_le (by omega)]
    rw [hR k hk']
    rfl
  | d + 1, k, j, h, hk => by
    obtain ⟨k, rfl, hk'⟩ := peel (show d + 1 + K + 1 ≤ k by omega)
    have hj : j < X.length := by omega
    have ih := nodes_l1 c t X hX K R hR d k (j + 1) (by omega) (by omega)
    rw [r33_nodes.l1, if_pos (by omega), if_pos (by omega), if_pos (by omega), rd_send X j hj, w64_step (by omega), List.drop_eq_getElem_cons hj, List.all_cons]
    rw [rnode_eq, Option.bind_some]
    cases h1 : isV c.f0 X[j].f0 with
    | false => rw [if_neg (by decide)]; simp
    | true =>
      rw [if_pos rfl, rnode_eq, Option.bind_some]
      cases h2 : isV c.f0 X[j].f1 with
      | false => rw [if_neg (by decide)]; simp
      | true => rw [if_pos rfl, ih]; simp
theorem nodes_l0 (c : CF) (t : TK) (X : List SD) (hX : X.length ≤ 1000000) (K : Nat) (R : Option Bool) (hR : ∀ k', K ≤ k' → r33_nodes.l1 k' t.f4 (t.f4.length : Int) 0 c.f0 c.f1 c.f2 c.f3 c.f4 c.f5 c.f6 c.f7 c.f8 c.f9 c.f10 t.f0 t.f1 t.f2 t.f3 t.f4 t.f5 = R) : ∀ (d k j : Nat), j + d = X.length → d + 1 + K ≤ k → r33_nodes.l0 k X (X.length : Int) (j : Int) c.f0 c.f1 c.f2 c.f3 c.f4 c.f5 c.f6 c.f7 c.f8 c.f9 c.f10 t.f0 t.f1 t.f2 t.f3 t.f4 t.f5 = (if (X.drop j).all (fun x => isV c.f0 x.f0 && isV c.f0 x.f1) = true then R else some false)
  | 0, k, j, h, hk => by
    obtain ⟨k, rfl, hk'⟩ := peel (show K + 1 ≤ k by omega)
    rw [r33_nodes.l0, if_neg (by omega), List.drop_of_length_le (by omega)]
    rw [hR k hk']
    rfl
  | d + 1, k, j, h, hk => by
    obtain ⟨k, rfl, hk'⟩ := peel (show d + 1 + K + 1 ≤ k by omega)
    have hj : j < X.length := by omega
    have ih := nodes_l0 c t X hX K R hR d k (j + 1) (by omega) (by omega)
    rw [r33_nodes.l0, if_pos (by omega), if_pos (by omega), if_pos (by omega), rd_send X j hj, w64_step (by omega), List.drop_eq_getElem_cons hj, List.all_cons]
    rw [rnode_eq, Option.bind_some]
    cases h1 : isV c.f0 X[j].f0 with
    | false => rw [if_neg (by decide)]; simp
    | true =>
      rw [if_pos rfl, rnode_eq, Option.bind_some]
      cases h2 : isV c.f0 X[j].f1 with
      | false => rw [if_neg (by decide)]; simp
      | true => rw [if_pos rfl, ih]; simp
/-- A tick of few things. -/
structure Tiny (t : TK) : Prop where
  h0 : t.f0.length ≤ 1000
  h1 : t.f1.length ≤ 1000
  h2 : t.f2.length ≤ 1000
  h3 : t.f3.length ≤ 1000
  h4 : t.f4.length ≤ 1000
  h5 : t.f5.length ≤ 1000
/-- Does it name only nodes that there are. -/
def namedV (N : Int) (t : TK) : Bool := t.f2.all (fun x => isV N x.f0 && isV N x.f1) && t.f4.all (fun x => isV N x.f0 && isV N x.f1) && t.f3.all (fun x => isV N x.f0) && t.f5.all (fun x => isV N x.f0)
theorem snamed_eq (c : CF) (t : TK) : script_named.f c.f0 c.f1 c.f2 c.f3 c.f4 c.f5 c.f6 c.f7 c.f8 c.f9 c.f10 t.f0 t.f1 t.f2 t.f3 t.f4 t.f5 = some (namedV c.f0 t) := rfl
theorem rnodes_eq (c : CF) (t : TK) (ht : Tiny t) (k : Nat) (hk : 4010 ≤ k) : r33_nodes.f k c.f0 c.f1 c.f2 c.f3 c.f4 c.f5 c.f6 c.f7 c.f8 c.f9 c.f10 t.f0 t.f1 t.f2 t.f3 t.f4 t.f5 = some (namedV c.f0 t) := by
  have h0 := ht.h2; have h1 := ht.h3; have h2 := ht.h4; have h3 := ht.h5
  have a3 := fun k' (h : 1001 ≤ k') => nodes_l3 c t.f5 (by omega) t.f5.length k' 0 (by omega) (by omega)
  have a2 := fun k' (h : 2002 ≤ k') => nodes_l2 c t t.f3 (by omega) 1001 _ a3 t.f3.length k' 0 (by omega) (by omega)
  have a1 := fun k' (h : 3003 ≤ k') => nodes_l1 c t t.f4 (by omega) 2002 _ a2 t.f4.length k' 0 (by omega) (by omega)
  have a0 := nodes_l0 c t t.f2 (by omega) 3003 _ a1 t.f2.length k 0 (by omega) (by omega)
  simp only [List.drop_zero] at a0
  unfold r33_nodes.f namedV
  refine a0.trans ?_
  cases t.f2.all (fun x => isV c.f0 x.f0 && isV c.f0 x.f1) <;> cases t.f4.all (fun x => isV c.f0 x.f0 && isV c.f0 x.f1) <;> cases t.f3.all (fun x => isV c.f0 x.f0) <;> cases t.f5.all (fun x => isV c.f0 x.f0) <;> rfl
theorem long_l2 (n : Int) (X : List BU) (hX : X.length ≤ 1000000) : ∀ (d k j : Nat), j + d = X.length → d + 1 ≤ k → r33_long.l2 k X (X.length : Int) (j : Int) = (if (X.drop j).all (script_short2B) = true then some false else some true)
  | 0, k, j, h, hk => by
    obtain ⟨k, rfl, hk'⟩ := peel (show 0 + 1 ≤ k by omega)
    rw [r33_long.l2, if_neg (by omega), List.drop_of_length_le (by omega)]
    rfl
  | d + 1, k, j, h, hk => by
    obtain ⟨k, rfl, hk'⟩ := peel (show d + 1 + 1 ≤ k by omega)
    have hj : j < X.length := by omega
    have ih := long_l2 n X hX d k (j + 1) (by omega) (by omega)
    rw [r33_long.l2, if_pos (by omega), if_pos (by omega), if_pos (by omega), rd_burst X j hj, w64_step (by omega), List.drop_eq_getElem_cons hj, List.all_cons]
    by_cases hb : ((X[j].f1).size : Int) > 8000
    · have hp : script_short2B X[j] = false := by unfold script_short2B; simp; omega
      rw [if_pos hb, hp]
      rfl
    · have hp : script_short2B X[j] = true := by unfold script_short2B; simp; omega
      rw [if_neg hb, ih, hp, Bool.true_and]
theorem long_l1 (t : TK) (X : List SD) (hX : X.length ≤ 1000000) (K : Nat) (R : Option Bool) (hR : ∀ k', K ≤ k' → r33_long.l2 k' t.f3 (t.f3.length : Int) 0 = R) : ∀ (d k j : Nat), j + d = X.length → d + 1 + K ≤ k → r33_long.l1 k X (X.length : Int) (j : Int) t.f0 t.f1 t.f2 t.f3 t.f4 t.f5 = (if (X.drop j).all (script_short1B) = true then R else some true)
  | 0, k, j, h, hk => by
    obtain ⟨k, rfl, hk'⟩ := peel (show K + 1 ≤ k by omega)
    rw [r33_long.l1, if_neg (by omega), List.drop_of_length_le (by omega)]
    rw [hR k hk']
    rfl
  | d + 1, k, j, h, hk => by
    obtain ⟨k, rfl, hk'⟩ := peel (show d + 1 + K + 1 ≤ k by omega)
    have hj : j < X.length := by omega
    have ih := long_l1 t X hX K R hR d k (j + 1) (by omega) (by omega)
    rw [r33_long.l1, if_pos (by omega), if_pos (by omega), if_pos (by omega), rd_send X j hj, w64_step (by omega), List.drop_eq_getElem_cons hj, List.all_cons]
    by_cases hb : ((X[j].f3).size : Int) > 40
    · have hp : script_short1B X[j] = false := by unfold script_short1B; simp; omega
      rw [if_pos hb, hp]
      rfl
    · have hp : script_short1B X[j] = true := by unfold script_short1B; simp; omega
      rw [if_neg hb, ih, hp, Bool.true_and]
theorem long_l0 (t : TK) (X : List SD) (hX : X.length ≤ 1000000) (K : Nat) (R : Option Bool) (hR : ∀ k', K ≤ k' → r33_long.l1 k' t.f4 (t.f4.length : Int) 0 t.f0 t.f1 t.f2 t.f3 t.f4 t.f5 = R) : ∀ (d k j : Nat), j + d = X.length → d + 1 + K ≤ k → r33_long.l0 k X (X.length : Int) (j : Int) t.f0 t.f1 t.f2 t.f3 t.f4 t.f5 = (if (X.drop j).all (script_short1B) = true then R else some true)
  | 0, k, j, h, hk => by
    obtain ⟨k, rfl, hk'⟩ := peel (show K + 1 ≤ k by omega)
    rw [r33_long.l0, if_neg (by omega), List.drop_of_length_le (by omega)]
    rw [hR k hk']
    rfl
  | d + 1, k, j, h, hk => by
    obtain ⟨k, rfl, hk'⟩ := peel (show d + 1 + K + 1 ≤ k by omega)
    have hj : j < X.length := by omega
    have ih := long_l0 t X hX K R hR d k (j + 1) (by omega) (by omega)
    rw [r33_long.l0, if_pos (by omega), if_pos (by omega), if_pos (by omega), rd_send X j hj, w64_step (by omega), List.drop_eq_getElem_cons hj, List.all_cons]
    by_cases hb : ((X[j].f3).size : Int) > 40
    · have hp : script_short1B X[j] = false := by unfold script_short1B; simp; omega
      rw [if_pos hb, hp]
      rfl
    · have hp : script_short1B X[j] = true := by unfold script_short1B; simp; omega
      rw [if_neg hb, ih, hp, Bool.true_and]
/-- Are its bytes not too many. -/
def shortV (t : TK) : Bool := t.f2.all script_short1B && (t.f4.all script_short1B && t.f3.all script_short2B)
theorem sshort_eq (t : TK) : script_short.f t.f0 t.f1 t.f2 t.f3 t.f4 t.f5 = some (shortV t) := by
  unfold script_short.f script_every_short1.f script_every_short2.f shortV
  cases t.f2.all script_short1B <;> cases t.f4.all script_short1B <;> cases t.f3.all script_short2B <;> rfl
theorem rlong_eq (t : TK) (ht : Tiny t) (k : Nat) (hk : 4010 ≤ k) : r33_long.f k t.f0 t.f1 t.f2 t.f3 t.f4 t.f5 = some (!shortV t) := by
  have h0 := ht.h2; have h1 := ht.h3; have h2 := ht.h4
  have a2 := fun k' (h : 1001 ≤ k') => long_l2 0 t.f3 (by omega) t.f3.length k' 0 (by omega) (by omega)
  have a1 := fun k' (h : 2002 ≤ k') => long_l1 t t.f4 (by omega) 1001 _ a2 t.f4.length k' 0 (by omega) (by omega)
  have a0 := long_l0 t t.f2 (by omega) 2002 _ a1 t.f2.length k 0 (by omega) (by omega)
  simp only [List.drop_zero] at a0
  unfold r33_long.f shortV
  refine a0.trans ?_
  cases t.f2.all script_short1B <;> cases t.f4.all script_short1B <;> cases t.f3.all script_short2B <;> rfl
theorem rtick_l0 (n : Int) (X : List WR) (hX : X.length ≤ 1000000) : ∀ (d k j : Nat), j + d = X.length → d + 1 ≤ k → r33_tick.l0 k X (X.length : Int) (j : Int) = (if (X.drop j).all (script_tick2B) = true then some (0 : Int) else some 15)
  | 0, k, j, h, hk => by
    obtain ⟨k, rfl, hk'⟩ := peel (show 0 + 1 ≤ k by omega)
    rw [r33_tick.l0, if_neg (by omega), List.drop_of_length_le (by omega)]
    rfl
  | d + 1, k, j, h, hk => by
    obtain ⟨k, rfl, hk'⟩ := peel (show d + 1 + 1 ≤ k by omega)
    have hj : j < X.length := by omega
    have ih := rtick_l0 n X hX d k (j + 1) (by omega) (by omega)
    rw [r33_tick.l0, if_pos (by omega), if_pos (by omega), if_pos (by omega), rd_write X j hj, w64_step (by omega), List.drop_eq_getElem_cons hj, List.all_cons]
    by_cases hb : ((X[j].f1).size : Int) > 16
    · have hp : script_tick2B X[j] = false := by unfold script_tick2B; simp; omega
      rw [if_pos hb, hp]
      rfl
    · have hp : script_tick2B X[j] = true := by unfold script_tick2B; simp; omega
      rw [if_neg hb, ih, hp, Bool.true_and]
/-- Is it asked of each that it waits no longer than it may. -/
def waitV (t : TK) : Bool := t.f2.all script_tick1B && t.f4.all script_tick1B
def numsV (N : Int) (t : TK) : Bool := (decide ((t.f0.length : Int) ≤ N) && t.f0.all script_numbers1B) && (decide ((t.f1.length : Int) ≤ wrap64 (N * N)) && t.f1.all script_numbers1B) && waitV t
def fullV (t : TK) : Prop := (t.f2.length : Int) > 40 ∨ (t.f3.length : Int) > 40 ∨ (t.f4.length : Int) > 40 ∨ (t.f5.length : Int) > 40
instance (t : TK) : Decidable (fullV t) := by unfold fullV; infer_instance
/-- Why a tick can't be; 0 if it can. -/
def restV (N : Int) (t : TK) : Int := if namedV N t = true then (if shortV t = true then (if t.f5.all script_tick2B = true then 0 else 15) else 6) else 7
def tailV (N : Int) (t : TK) : Int := if fullV t then 9 else restV N t
def tickV (N : Int) (t : TK) : Int := if numsV N t = true then tailV N t else 2
theorem sfull_eq (t : TK) : script_full.f t.f0 t.f1 t.f2 t.f3 t.f4 t.f5 = some (decide (fullV t)) := by
  unfold script_full.f
  congr 1
  rw [decide_eq_decide]
  unfold fullV mx
  omega
theorem stick_j0 (k : Nat) (hk : 1 ≤ k) (c : CF) (t : TK) (b : Bool) : script_tick.j0 k b c.f0 c.f1 c.f2 c.f3 c.f4 c.f5 c.f6 c.f7 c.f8 c.f9 c.f10 t.f0 t.f1 t.f2 t.f3 t.f4 t.f5 = some (if b = true then 2 else tailV c.f0 t) := by
  obtain ⟨k, rfl, _⟩ := peel hk
  rw [script_tick.j0]
  cases b with
  | true => rfl
  | false =>
    show _ = some (tailV c.f0 t)
    unfold tailV restV
    rw [if_neg (by decide), sfull_eq, Option.bind_some]
    by_cases h : fullV t
    · rw [if_pos (decide_eq_true h), if_pos h]
    · rw [if_neg (by rw [decide_eq_false h]; decide), if_neg h, snamed_eq, Option.bind_some]
      cases namedV c.f0 t with
      | false => rfl
      | true =>
        rw [if_pos rfl, if_pos rfl, sshort_eq, Option.bind_some]
        cases shortV t with
        | false => rfl
        | true =>
          rw [if_pos rfl, if_pos rfl, script_every_tick2.f, Option.bind_some]
          cases t.f5.all script_tick2B <;> rfl
theorem stick_eq (k : Nat) (hk : 1 ≤ k) (c : CF) (t : TK) : script_tick.f k c.f0 c.f1 c.f2 c.f3 c.f4 c.f5 c.f6 c.f7 c.f8 c.f9 c.f10 t.f0 t.f1 t.f2 t.f3 t.f4 t.f5 = some (tickV c.f0 t) := by
  unfold script_tick.f script_every_tick1.f
  simp only [stick_j0 k hk, snumbers_eq, Option.bind_some]
  unfold tickV numsV waitV
  cases (decide ((t.f0.length : Int) ≤ c.f0) && t.f0.all script_numbers1B) <;> cases (decide ((t.f1.length : Int) ≤ wrap64 (c.f0 * c.f0)) && t.f1.all script_numbers1B) <;> cases t.f2.all script_tick1B <;> cases t.f4.all script_tick1B <;> rfl
theorem rtick_j1 (k : Nat) (hk : 4020 ≤ k) (c : CF) (t : TK) (ht : Tiny t) (b : Bool) : r33_tick.j1 k b c.f0 c.f1 c.f2 c.f3 c.f4 c.f5 c.f6 c.f7 c.f8 c.f9 c.f10 t.f0 t.f1 t.f2 t.f3 t.f4 t.f5 = some (if b = true then 9 else restV c.f0 t) := by
  obtain ⟨k, rfl, _⟩ := peel (show 4019 + 1 ≤ k by omega)
  rw [r33_tick.j1]
  cases b with
  | true => rfl
  | false =>
    show _ = some (restV c.f0 t)
    unfold restV
    rw [if_neg (by decide), rnodes_eq c t ht k (by omega), Option.bind_some]
    cases namedV c.f0 t with
    | false => rfl
    | true =>
      rw [if_pos rfl, if_pos rfl, rlong_eq t ht k (by omega), Option.bind_some]
      cases shortV t with
      | false => rfl
      | true =>
        have h5 := ht.h5
        have a := rtick_l0 0 t.f5 (by omega) t.f5.length k 0 (by omega) (by omega)
        rw [List.drop_zero] at a
        rw [if_neg (show ¬ (!true) = true by decide), if_pos rfl]
        refine (show _ = _ from a).trans ?_
        cases t.f5.all script_tick2B <;> rfl
theorem rtick_j0 (k : Nat) (hk : 4021 ≤ k) (c : CF) (t : TK) (ht : Tiny t) (b : Bool) : r33_tick.j0 k b c.f0 c.f1 c.f2 c.f3 c.f4 c.f5 c.f6 c.f7 c.f8 c.f9 c.f10 t.f0 t.f1 t.f2 t.f3 t.f4 t.f5 = some (if b = true then 2 else tailV c.f0 t) := by
  obtain ⟨k, rfl, _⟩ := peel (show 4020 + 1 ≤ k by omega)
  rw [r33_tick.j0]
  cases b with
  | true => rfl
  | false =>
    show _ = some (tailV c.f0 t)
    unfold tailV
    rw [if_neg (by decide), rtick_j1 k (by omega) c t ht true, rtick_j1 k (by omega) c t ht (decide ((t.f5.length : Int) > 40))]
    by_cases h2 : (t.f2.length : Int) > 40
    · rw [if_pos h2, if_pos rfl, if_pos (show fullV t from .inl h2)]
    · by_cases h3 : (t.f3.length : Int) > 40
      · rw [if_neg h2, if_pos h3, if_pos rfl, if_pos (show fullV t from .inr (.inl h3))]
      · by_cases h4 : (t.f4.length : Int) > 40
        · rw [if_neg h2, if_neg h3, if_pos h4, if_pos rfl, if_pos (show fullV t from .inr (.inr (.inl h4)))]
        · by_cases h5 : (t.f5.length : Int) > 40
          · rw [if_neg h2, if_neg h3, if_neg h4, decide_eq_true h5, if_pos rfl, if_pos (show fullV t from .inr (.inr (.inr h5)))]
          · rw [if_neg h2, if_neg h3, if_neg h4, decide_eq_false h5, if_neg (by decide), if_neg (show ¬ fullV t by rintro (h | h | h | h) <;> contradiction)]
theorem all_waits (l : List SD) : (l.map (·.f2)).all script_numbers1B = l.all script_tick1B := by
  rw [List.all_map]
  rfl
theorem rtick_eq (k : Nat) (hk : 5000 ≤ k) (c : CF) (t : TK) (ht : Tiny t) : r33_tick.f k c.f0 c.f1 c.f2 c.f3 c.f4 c.f5 c.f6 c.f7 c.f8 c.f9 c.f10 t.f0 t.f1 t.f2 t.f3 t.f4 t.f5 = some (tickV c.f0 t) := by
  have h0 := ht.h0; have h1 := ht.h1; have h2 := ht.h2; have h4 := ht.h4
  have hw : decide (((t.f2.map (·.f2) ++ t.f4.map (·.f2)).length : Int) ≤ wrap64 ((t.f2.length : Int) + (t.f4.length : Int))) = true := decide_eq_true (by rw [List.length_append, List.length_map, List.length_map]; unfold wrap64; omega)
  have hk1 : 4021 ≤ k := by omega
  have hl : (t.f2.map (·.f2) ++ t.f4.map (·.f2)).length ≤ 1000000 := by rw [List.length_append, List.length_map, List.length_map]; omega
  have hl' : (t.f2.map (·.f2) ++ t.f4.map (·.f2)).length + 1 ≤ k := by rw [List.length_append, List.length_map, List.length_map]; omega
  have hA := rwithin_eq t.f0 c.f0 (by omega) k (by omega)
  have hB := rwithin_eq t.f1 (wrap64 (c.f0 * c.f0)) (by omega) k (by omega)
  have hC := rwithin_eq (t.f2.map (·.f2) ++ t.f4.map (·.f2)) (wrap64 ((t.f2.length : Int) + (t.f4.length : Int))) hl k hl'
  rw [hw, Bool.true_and, List.all_append, all_waits, all_waits] at hC
  have hV : tickV c.f0 t = if numsV c.f0 t = true then tailV c.f0 t else 2 := rfl
  have hN : numsV c.f0 t = ((decide ((t.f0.length : Int) ≤ c.f0) && t.f0.all script_numbers1B) && (decide ((t.f1.length : Int) ≤ wrap64 (c.f0 * c.f0)) && t.f1.all script_numbers1B) && (t.f2.all script_tick1B && t.f4.all script_tick1B)) := rfl
  generalize (decide ((t.f0.length : Int) ≤ c.f0) && t.f0.all script_numbers1B) = A at hA hN
  generalize (decide ((t.f1.length : Int) ≤ wrap64 (c.f0 * c.f0)) && t.f1.all script_numbers1B) = B at hB hN
  generalize (t.f2.all script_tick1B && t.f4.all script_tick1B) = C at hC hN
  have hj := rtick_j0 k hk1 c t ht
  unfold r33_tick.f
  rw [hA, Option.bind_some]
  cases A with
  | false =>
    rw [if_neg (by decide), hj, hV, hN]
    rfl
  | true =>
    rw [if_pos rfl, hB, Option.bind_some]
    cases B with
    | false =>
      rw [if_neg (by decide), hj, hV, hN]
      rfl
    | true =>
      rw [if_pos rfl, waits_eq t h2 h4 k (by omega), Option.bind_some, hC, Option.bind_some, hj, hV, hN]
      cases C <;> rfl
end Go.Proofs.Ythdoghhmooodjaa.Facts
