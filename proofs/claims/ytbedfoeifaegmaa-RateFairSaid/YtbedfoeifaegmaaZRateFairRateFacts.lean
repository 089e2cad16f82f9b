import Derived.Test.YtbedfoeifaegmaaZRateFairGn10
import Derived.Test.YtbedfoeifaegmaaZRateFairGn0
import Derived.Test.YtbedfoeifaegmaaZRateFairGn2
import Derived.Test.YtbedfoeifaegmaaZRateFairGn27
import Derived.Test.YtbedfoeifaegmaaZRateFairGn28
import Derived.Test.YtbedfoeifaegmaaZRateFairGn29
import Derived.Test.YtbedfoeifaegmaaZRateFairGn30
import Derived.Test.YtbedfoeifaegmaaZRateFairLogFacts
namespace Go.Proofs.Ytbedfoeifaegmaa.Facts
open Go.RowKit Go.Proofs.Ytbedfoeifaegmaa.Gn Go.Proofs.YtbedfoeifaegmaaW.PrintWords Go.Proofs.YtbedfoeifaegmaaW.PrintLast
set_option linter.unusedVariables false
theorem prg_wf {now width : Int} {l : List EN} (h : WfE l) : WfE (prg now width l) := fun e he => h e (prg_mem he)
theorem ofN_prg (now width : Int) (l : List EN) (n : Int) : ofN now width (prg now width l) n = ofN now width l n := by
  unfold ofN
  rw [prg_prg]
/-- How many more of a node may come. -/
def roomV (now width limit : Int) (l : List EN) (n : Int) : Int := if limit ≤ (ofN now width l n : Nat) then 0 else limit - (ofN now width l n : Nat)
abbrev I64 (a : Int) : Prop := (Lit.int .i64 a).wf = true
theorem roomw {limit : Int} (hL : I64 limit) {c : Nat} (h : ¬ limit ≤ (c : Int)) : wrap64 (limit - (c : Int)) = limit - (c : Int) := by
  have := wf_i64 hL
  exact w64 (by omega)
theorem rule_room_eq (l : List EN) (hl : l.length ≤ 1000) (hw : WfE l) (now width limit n : Int) (hL : I64 limit) (hn : I64 n) : rate_rule_room.f now width limit l n = some (roomV now width limit l n) := by
  unfold rate_rule_room.f roomV
  rw [of_eq l hl hw n now width hn, Option.bind_some]
  by_cases h : limit ≤ ((ofN now width l n : Nat) : Int)
  · rw [if_pos h, if_pos h]
  · rw [if_neg h, if_neg h, roomw hL h]
theorem room_eq (l : List EN) (hl : l.length ≤ 1000) (hw : WfE l) (now width limit n : Int) (hL : I64 limit) (hn : I64 n) : rate_Room.f l n now width limit = some (roomV now width limit l n) := by
  unfold rate_Room.f
  rw [rule_room_eq l hl hw now width limit n hL hn]
  rfl
/-- The notes with one more of a node, if it may; and why not. -/
def takeV (now width limit : Int) (l : List EN) (n : Int) : List EN × Int :=
  if limit ≤ ((ofN now width l n : Nat) : Int) then (prg now width l, 17) else ((addV (prg now width l) ⟨n, now % 65536⟩).1, if (addV (prg now width l) ⟨n, now % 65536⟩).2 = true then 9 else 0)
theorem rule_take_eq (l : List EN) (hl : l.length ≤ 1000) (hw : WfE l) (now width limit n : Int) (hL : I64 limit) (hn : I64 n) : rate_rule_take.f now width limit l n = some (takeV now width limit l n) := by
  have hp : (prg now width l).length ≤ 1000 := Nat.le_trans (prg_len now width l) hl
  unfold rate_rule_take.f takeV
  rw [purge_eq l hl, Option.bind_some, rule_room_eq _ hp (prg_wf hw) now width limit n hL hn, Option.bind_some]
  unfold roomV
  rw [ofN_prg]
  by_cases h : limit ≤ ((ofN now width l n : Nat) : Int)
  · rw [if_pos h, if_pos h, if_pos rfl]
  · rw [if_neg h, if_neg h, if_neg (by omega), put_eq, Option.bind_some, add_eq _ hp, Option.bind_some]
    cases (addV (prg now width l) ⟨n, now % 65536⟩).2 <;> rfl
theorem takeV_len (now width limit : Int) (l : List EN) (n : Int) : (takeV now width limit l n).1.length ≤ l.length + 1 := by
  have hp : (prg now width l).length ≤ l.length := prg_len now width l
  unfold takeV
  split
  · exact Nat.le_succ_of_le hp
  · have := (addV_len (prg now width l) ⟨n, now % 65536⟩).1
    show (addV (prg now width l) ⟨n, now % 65536⟩).1.length ≤ _
    omega
theorem takeV_wf {now width limit : Int} {l : List EN} {n : Int} (hw : WfE l) (hn : I64 n) : WfE (takeV now width limit l n).1 := by
  intro e he
  unfold takeV at he
  split at he
  · exact hw e (prg_mem he)
  · rcases addV_mem he with h | h
    · exact hw e (prg_mem h)
    · rw [h]; exact hn
/-- Many, one after another. -/
def manyV (now width limit : Int) : List EN → List Int → List Bool → List EN × List Bool
  | l, [], acc => (l, acc)
  | l, n :: ns, acc => manyV now width limit (takeV now width limit l n).1 ns (acc ++ [(takeV now width limit l n).2 != 17])
theorem many_l0 (now width limit : Int) (hL : I64 limit) (from_ : List Int) (hf : from_.length ≤ 500) (hn : ∀ x ∈ from_, I64 x) : ∀ (d k j : Nat) (l : List EN) (acc : List Bool), j + d = from_.length → d + 1 ≤ k → l.length + d ≤ 1000 → WfE l → acc.length ≤ j → rate_Many.l0 k l acc from_ (from_.length : Int) (j : Int) now width limit = some (manyV now width limit l (from_.drop j) acc)
  | 0, k, j, l, acc, h, hk, hl, hw, ha => by
    obtain ⟨k, rfl, _⟩ := lpeel hk
    rw [rate_Many.l0, if_neg (by omega), List.drop_of_length_le (by omega)]
    rfl
  | d + 1, k, j, l, acc, h, hk, hl, hw, ha => by
    obtain ⟨k, rfl, hk'⟩ := lpeel hk
    have hj : j < from_.length := by omega
    have hnj : I64 from_[j] := hn _ (List.getElem_mem hj)
    have hlen := takeV_len now width limit l from_[j]
    rw [rate_Many.l0, if_pos (by omega), if_pos (by omega), if_pos (by omega), lrd_at from_ j hj, rule_take_eq l (by omega) hw now width limit _ hL hnj, Option.bind_some, if_pos (by omega), lstep (by omega), List.drop_eq_getElem_cons hj,
      many_l0 now width limit hL from_ hf hn d k (j + 1) _ _ (by omega) hk' (by omega) (takeV_wf hw hnj) (by rw [List.length_append]; exact Nat.add_le_add ha (Nat.le_refl _))]
    rfl
theorem many_eq (now width limit : Int) (hL : I64 limit) (from_ : List Int) (hf : from_.length ≤ 500) (hn : ∀ x ∈ from_, I64 x) (l : List EN) (hl : l.length ≤ 400) (hw : WfE l) (k : Nat) (hk : from_.length + 1 ≤ k) : rate_Many.f k l now width limit from_ = some (manyV now width limit l from_ []) := by
  unfold rate_Many.f
  rw [if_pos (by simp; omega), List.nil_append, show (0 : Int) = ((0 : Nat) : Int) from rfl, many_l0 now width limit hL from_ hf hn from_.length k 0 l [] (by omega) hk (by omega) hw (Nat.le_refl _)]
  rfl
theorem known07 (k : Nat) (hk : 100 ≤ k) : l07_known.f k = some true := lleo_up l07_known.mono hk (by decide +kernel)
end Go.Proofs.Ytbedfoeifaegmaa.Facts
