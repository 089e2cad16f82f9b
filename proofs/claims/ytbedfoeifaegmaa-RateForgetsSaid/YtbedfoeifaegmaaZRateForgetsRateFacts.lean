import Derived.Test.YtbedfoeifaegmaaZRateForgetsGn10
import Derived.Test.YtbedfoeifaegmaaZRateForgetsGn0
import Derived.Test.YtbedfoeifaegmaaZRateForgetsGn2
import Derived.Test.YtbedfoeifaegmaaZRateForgetsGn12
import Derived.Test.YtbedfoeifaegmaaZRateForgetsGn13
import Derived.Test.YtbedfoeifaegmaaZRateForgetsGn27
import Derived.Test.YtbedfoeifaegmaaZRateForgetsGn28
import Derived.Test.YtbedfoeifaegmaaZRateForgetsGn29
import Derived.Test.YtbedfoeifaegmaaZRateForgetsGn30
import Derived.Test.YtbedfoeifaegmaaZRateForgetsLogFacts
namespace Go.Proofs.Ytbedfoeifaegmaa.Facts
open Go.RowKit Go.Proofs.Ytbedfoeifaegmaa.Gn Go.Proofs.YtbedfoeifaegmaaW.PrintWords Go.Proofs.YtbedfoeifaegmaaW.PrintLast
set_option linter.unusedVariables false
theorem prg_wf {now width : Int} {l : List EN} (h : WfE l) : WfE (prg now width l) := fun e he => h e (prg_mem he)
theorem ofN_prg (now width : Int) (l : List EN) (n : Int) : ofN now width (prg now width l) n = ofN now width l n := by
  unfold ofN
  rw [prg_prg]
/-- How many more of a node may come. -/
def roomV (now width limit : Int) (l : List EN) (n : Int) : Int := if limit ≤ (ofN now width l n : Nat) then 0 else limit - (ofN now width l n : Nat)
abbrev I64 (a : Int) : Prop := (Lit.int .i64 a).wf = true
theorem roomw {limit : Int} (hL : I64 limit) {c : Nat} (h : ¬ limit ≤ (c : Int)) : wrap64 (limit - (c : Int)) = limit - (c : Int) := by
  have := wf_i64 hL
  exact w64 (by omega)
theorem rule_room_eq (l : List EN) (hl : l.length ≤ 1000) (hw : WfE l) (now width limit n : Int) (hL : I64 limit) (hn : I64 n) : rate_rule_room.f now width limit l n = some (roomV now width limit l n) := by
  unfold rate_rule_room.f roomV
  rw [of_eq l hl hw n now width hn, Option.bind_some]
  by_cases h : limit ≤ ((ofN now width l n : Nat) : Int)
  · rw [if_pos h, if_pos h]
  · rw [if_neg h, if_neg h, roomw hL h]
/-- The notes with one more of a node, if it may; and why not. -/
def takeV (now width limit : Int) (l : List EN) (n : Int) : List EN × Int :=
  if limit ≤ ((ofN now width l n : Nat) : Int) then (prg now width l, 17) else ((addV (prg now width l) ⟨n, now % 65536⟩).1, if (addV (prg now width l) ⟨n, now % 65536⟩).2 = true then 9 else 0)
theorem rule_take_eq (l : List EN) (hl : l.length ≤ 1000) (hw : WfE l) (now width limit n : Int) (hL : I64 limit) (hn : I64 n) : rate_rule_take.f now width limit l n = some (takeV now width limit l n) := by
  have hp : (prg now width l).length ≤ 1000 := Nat.le_trans (prg_len now width l) hl
  unfold rate_rule_take.f takeV
  rw [purge_eq l hl, Option.bind_some, rule_room_eq _ hp (prg_wf hw) now width limit n hL hn, Option.bind_some]
  unfold roomV
  rw [ofN_prg]
  by_cases h : limit ≤ ((ofN now width l n : Nat) : Int)
  · rw [if_pos h, if_pos h, if_pos rfl]
  · rw [if_neg h, if_neg h, if_neg (by omega), put_eq, Option.bind_some, add_eq _ hp, Option.bind_some]
    cases (addV (prg now width l) ⟨n, now % 65536⟩).2 <;> rfl
theorem take_eq (l : List EN) (hl : l.length ≤ 1000) (hw : WfE l) (now width limit n : Int) (hL : I64 limit) (hn : I64 n) : rate_Take.f l n now width limit = some (takeV now width limit l n) := by
  unfold rate_Take.f
  rw [rule_take_eq l hl hw now width limit n hL hn]
  rfl
theorem takeV_len (now width limit : Int) (l : List EN) (n : Int) : (takeV now width limit l n).1.length ≤ l.length + 1 := by
  have hp : (prg now width l).length ≤ l.length := prg_len now width l
  unfold takeV
  split
  · exact Nat.le_succ_of_le hp
  · have := (addV_len (prg now width l) ⟨n, now % 65536⟩).1
    show (addV (prg now width l) ⟨n, now % 65536⟩).1.length ≤ _
    omega
theorem known07 (k : Nat) (hk : 100 ≤ k) : l07_known.f k = some true := lleo_up l07_known.mono hk (by decide +kernel)
end Go.Proofs.Ytbedfoeifaegmaa.Facts
