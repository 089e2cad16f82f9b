import Derived.Test.YtbedfoeifaegmaaZLogCapsGn0
import Derived.Test.YtbedfoeifaegmaaZLogCapsGn6
import Derived.Maps.OwnIn
import Derived.Maps.RangeWalk
import Derived.Maps.Ext
namespace Go.Proofs.Ytbedfoeifaegmaa.Gn
open Go.RowKit Go.Proofs.YtbedfoeifaegmaaW.PrintWords Go.Proofs.YtbedfoeifaegmaaW.PrintLast Go.Proofs.YtbedfoeifaegmaaW.PrintMore
attribute [local go_sem] max2_int min2_int max_two min_two max_three min_three max_four min_four   -- for this text's walks alone
set_option linter.unusedVariables false
set_option linter.unusedSimpArgs false
/-- Which numbers there are, each once, as they come. -/
def uniqS (acc : List Int) (x : Int) : List Int := if acc.contains x then acc else acc ++ [x]
def uniqL (xs : List Int) : List Int := xs.foldl uniqS []
theorem has_from : ∀ (xs : List Int) (D : DataW Unit) (acc : List Int), Maps.Tidy D → (∀ x, Maps.has D (.int .i64 x) = acc.contains x) → Maps.size D = acc.length → Maps.Tidy (xs.foldl bumpD D) ∧ (∀ x, Maps.has (xs.foldl bumpD D) (.int .i64 x) = (xs.foldl uniqS acc).contains x) ∧ Maps.size (xs.foldl bumpD D) = (xs.foldl uniqS acc).length
 | [], _, _, hT, hh, hs => ⟨hT, hh, hs⟩
 | y :: ys, D, acc, hT, hh, hs => by
  rw [List.foldl_cons, List.foldl_cons]
  refine has_from ys (bumpD D y) (uniqS acc y) (Maps.Tidy.put hT (isKey_int y) _) (fun x => ?_) ?_
  ·unfold bumpD uniqS
   by_cases e : x = y
   ·subst e
    rw [Maps.has_put_same hT.isMap (isKey_int _)]
    by_cases c : acc.contains x = true
    ·rw [if_pos c, c]
    ·rw [if_neg c]; simp
   ·rw [Maps.has_put_other (fun q => e (by injection q)), hh x]
    by_cases c : acc.contains y = true
    ·rw [if_pos c]
    ·rw [if_neg c]; simp [e]
  ·unfold bumpD uniqS
   rw [Maps.size_put hT, hh y, hs]
   by_cases c : acc.contains y = true
   ·rw [if_pos c, if_pos c]
   ·rw [if_neg c, if_neg c, List.length_append]; rfl
theorem has_tally (xs : List Int) : Maps.Tidy (tallyD xs) ∧ (∀ x, Maps.has (tallyD xs) (.int .i64 x) = (uniqL xs).contains x) ∧ Maps.size (tallyD xs) = (uniqL xs).length :=
 has_from xs (.map []) [] Maps.tidy_empty (fun _ => rfl) rfl
theorem uniq_from : ∀ (xs acc : List Int), acc.Nodup → (xs.foldl uniqS acc).Nodup ∧ ∀ x, x ∈ xs.foldl uniqS acc ↔ x ∈ acc ∨ x ∈ xs
 | [], acc, h => ⟨h, fun x => by simp⟩
 | y :: ys, acc, h => by
  rw [List.foldl_cons]
  by_cases c : acc.contains y = true
  ·have e : uniqS acc y = acc := by unfold uniqS; rw [if_pos c]
   rw [e]
   obtain ⟨h1, h2⟩ := uniq_from ys acc h
   refine ⟨h1, fun x => ?_⟩
   rw [h2 x, List.mem_cons]
   refine ⟨fun q => q.elim Or.inl (fun z => .inr (.inr z)), fun q => q.elim Or.inl (fun z => z.elim (fun z => .inl (by rw [z]; simpa using c)) Or.inr)⟩
  ·have e : uniqS acc y = acc ++ [y] := by unfold uniqS; rw [if_neg c]
   have hy : y ∉ acc := by simpa using c
   rw [e]
   obtain ⟨h1, h2⟩ := uniq_from ys (acc ++ [y]) (List.nodup_append.2 ⟨h, by simp, fun a ha b hb => by simp at hb; subst hb; exact fun q => hy (q ▸ ha)⟩)
   refine ⟨h1, fun x => ?_⟩
   rw [h2 x, List.mem_cons]
   simp [or_assoc]
theorem uniqL_nodup (xs : List Int) : (uniqL xs).Nodup := (uniq_from xs [] List.nodup_nil).1
theorem uniqL_mem (xs : List Int) (x : Int) : x ∈ uniqL xs ↔ x ∈ xs := by
 have := (uniq_from xs [] List.nodup_nil).2 x
 simpa [uniqL] using this
theorem wpList_len_own {P : Program} {w : World} {ops : Array Oper} {rest : List Oper} {o : Oper} {a : Act} {Q : Exit → Act → World → Prop} (hg : o.guard = none) (m : Operand) (t : TypeId) (hop : o.op = .call { callee := .builtin .len, args := #[m], argTypes := #[t] })
  (k e : TypeId) (ht : P.underlying t = some (.map k e)) (R : Value → Option (DataW Unit × List MemPlace)) (b n : Nat) (D : DataW Unit) (hm : a.eval m = .map (some b)) (hown : w.ownsMap P k R b n D)
  (hK : wpList P ops Q rest (a.put o.dst (.int .i64 (Maps.size D : Nat))) w) : wpList P ops Q (o :: rest) a w := by
 obtain ⟨es, clock, hb, _, _, rfl⟩ := hown
 have hl : Maps.size (.map ((es.toList.map (WideElems.rg P k R)).foldr DataW.insert [])) = es.size := by
  rw [Maps.size_eq, length_sorted, List.length_map, Array.length_toList]
 rw [hl] at hK
 refine wpList_plain hg fun K hK' => ?_
 unfold Oper.wp
 simp [execOp, hop, resolve, invoke, builtin, hm, Builtin.len_, run_underlying ht, MapKept.run_getObj_map hb, Result.andThen, goInt]
 exact hK' _ _ hK
def log_Count.f (l0 : List S43) (a1 a2 : Int) : Option Int := if seesAll a1 a2 l0 = true ∧ wfAll l0 = true ∧ l0.length < 8796093022208 then some ((uniqL ((aliveL a1 a2 l0 l0.length).map (·.f0))).length : Nat) else none
theorem log_Count.calls (A0 : Option Addr) (c0 : Nat) (l0 : List S43) (a1 a2 : Int) (r : Int) (w : World) (hr0 : Kd.C k43 w A0 l0.length l0) (hc0 : l0.length ≤ c0) (h : log_Count.f l0 a1 a2 = some r) :
  Calls Try.prog 26 #[.slice A0 l0.length c0, .int .i64 a1, .int .i64 a2] w fun e w' => e = .returned (.int .i64 r) ∧ Below w.heap.size w w' := by
 unfold log_Count.f at h
 by_cases hs : seesAll a1 a2 l0 = true ∧ wfAll l0 = true ∧ l0.length < 8796093022208
 ·rw [if_pos hs] at h
  obtain rfl := Option.some.inj h
  obtain ⟨hs, hw, hlen⟩ := hs
  go_enter Try.func26, Try.ntmps26
  go_wp2_with (first | (go_at_call 37; refine (log_nodes.calls A0 c0 l0 a1 a2 _ hr0 hc0 hs hw hlen).mono ?_; rintro e w1 ⟨rfl, hown, hb⟩) | ((with_reducible refine gate_builtin (b := .len) (xs := #[.tmp 10]) rfl ?_); refine wpList_len_own rfl _ 62 rfl 3 3 Try.underlying62 _ w.heap.size l0.length _ rfl hown ?_))
  go_ret
  exact ⟨by rw [← (has_tally _).2.2]; rfl, hb⟩
 ·rw [if_neg hs] at h
  cases h
end Go.Proofs.Ytbedfoeifaegmaa.Gn
