/-
  No cell of these rows narrows 'for every input' (looked for: loops, veiled, ifaces, maps, wideKeys, modest, calm, conditions, laid).
  DERIVED. THE GIVEN ROWS OF THIS SEAT. 8 by the template 'for every input the law returns true; each argument reads behind the call as it read before'; 0 by the template 'total and deterministic' (their statements: YtbedfoeifaegmaaTotals.lean).
  GIVEN WITH THE SEED: the statements are not yours to turn. If you find one false, say at which input.
  Laid BY PROGRAM, IN A SANDBOX (cutbox-rows.mjs): the forced cells as the released guide's own fill.sh prints them over the translation 0d3e883375d0a657… (all of the seat's roots in one cut). By AI agents, Wed Nov 11 2026. No macro, syntax, notation, axiom, sorry.
-/
import Derived.Test.YtbedfoeifaegmaaChecked
import GoSem.Claim
import GoSem.ClaimJoined
import GoSem.ClaimMapViews
import Derived.JoinedTies
import Derived.KernelRfl
namespace Go.Proofs.Ytbedfoeifaegmaa
/- THE CELL 'sum', in the pinned program and in every row, IS THE sha256 OF THE DUMP (.gsa) THAT YtbedfoeifaegmaaProg.lean LOADS. Nothing in Lean hashes anything: it is a label: what it is worth is what the hold of that sum in a sandbox is worth. -/
noncomputable def Try.pinned : Pinned := { name := "ytbedfoeifaegmaa", sum := "0d3e883375d0a6579ee33b6919f081548753452220bc8ffe9ae4bba26a1f7ff2", checked := Try.checked }
namespace Rows
def none {H : Type} : Left H := { results := [], args := [] }

/-- 'bellwetherlaw07.RateTakes': WHATEVER THE INPUT: true; the input reads as it did. -/
def rateTakesSpec : ChangeSpec := { name := "rateTakes", fn := fun _ => fun
  | [d1, d2] => { results := [.lit (.bool true)], args := [d1, d2] }
  | _ => none }
def rateTakesRow : OpenClaim := { program := "ytbedfoeifaegmaa", sum := "0d3e883375d0a6579ee33b6919f081548753452220bc8ffe9ae4bba26a1f7ff2", func := "bellwether/bellwetherlaw07.RateTakes", spec := "rateTakes", unfollowed := true, recurses := true, apart := false }
def RateTakesSaid : Prop := rateTakesRow.holds Try.pinned (OpenSpec.ofChange rateTakesSpec)

/-- ITS FALSE NEIGHBOUR: 'it returns false'. Refute it at one input. -/
def rateTakesWrong : ChangeSpec := { name := "rateTakes", fn := fun _ => fun
  | [d1, d2] => { results := [.lit (.bool false)], args := [d1, d2] }
  | _ => none }
def RateTakesWrongFalsely : Prop := rateTakesRow.holds Try.pinned (OpenSpec.ofChange rateTakesWrong)

/-- 'bellwetherlaw07.RateMany': WHATEVER THE INPUT: true; the input reads as it did. -/
def rateManySpec : ChangeSpec := { name := "rateMany", fn := fun _ => fun
  | [d1, d2] => { results := [.lit (.bool true)], args := [d1, d2] }
  | _ => none }
def rateManyRow : OpenClaim := { program := "ytbedfoeifaegmaa", sum := "0d3e883375d0a6579ee33b6919f081548753452220bc8ffe9ae4bba26a1f7ff2", func := "bellwether/bellwetherlaw07.RateMany", spec := "rateMany", unfollowed := true, recurses := true, apart := false }
def RateManySaid : Prop := rateManyRow.holds Try.pinned (OpenSpec.ofChange rateManySpec)

/-- ITS FALSE NEIGHBOUR: 'it returns false'. Refute it at one input. -/
def rateManyWrong : ChangeSpec := { name := "rateMany", fn := fun _ => fun
  | [d1, d2] => { results := [.lit (.bool false)], args := [d1, d2] }
  | _ => none }
def RateManyWrongFalsely : Prop := rateManyRow.holds Try.pinned (OpenSpec.ofChange rateManyWrong)

/-- 'bellwetherlaw07.RateFair': WHATEVER THE INPUT: true; the input reads as it did. -/
def rateFairSpec : ChangeSpec := { name := "rateFair", fn := fun _ => fun
  | [d1, d2, d3] => { results := [.lit (.bool true)], args := [d1, d2, d3] }
  | _ => none }
def rateFairRow : OpenClaim := { program := "ytbedfoeifaegmaa", sum := "0d3e883375d0a6579ee33b6919f081548753452220bc8ffe9ae4bba26a1f7ff2", func := "bellwether/bellwetherlaw07.RateFair", spec := "rateFair", unfollowed := true, recurses := true, apart := false }
def RateFairSaid : Prop := rateFairRow.holds Try.pinned (OpenSpec.ofChange rateFairSpec)

/-- ITS FALSE NEIGHBOUR: 'it returns false'. Refute it at one input. -/
def rateFairWrong : ChangeSpec := { name := "rateFair", fn := fun _ => fun
  | [d1, d2, d3] => { results := [.lit (.bool false)], args := [d1, d2, d3] }
  | _ => none }
def RateFairWrongFalsely : Prop := rateFairRow.holds Try.pinned (OpenSpec.ofChange rateFairWrong)

/-- 'bellwetherlaw07.RateForgets': WHATEVER THE INPUT: true; the input reads as it did. -/
def rateForgetsSpec : ChangeSpec := { name := "rateForgets", fn := fun _ => fun
  | [d1, d2] => { results := [.lit (.bool true)], args := [d1, d2] }
  | _ => none }
def rateForgetsRow : OpenClaim := { program := "ytbedfoeifaegmaa", sum := "0d3e883375d0a6579ee33b6919f081548753452220bc8ffe9ae4bba26a1f7ff2", func := "bellwether/bellwetherlaw07.RateForgets", spec := "rateForgets", unfollowed := true, recurses := true, apart := false }
def RateForgetsSaid : Prop := rateForgetsRow.holds Try.pinned (OpenSpec.ofChange rateForgetsSpec)

/-- ITS FALSE NEIGHBOUR: 'it returns false'. Refute it at one input. -/
def rateForgetsWrong : ChangeSpec := { name := "rateForgets", fn := fun _ => fun
  | [d1, d2] => { results := [.lit (.bool false)], args := [d1, d2] }
  | _ => none }
def RateForgetsWrongFalsely : Prop := rateForgetsRow.holds Try.pinned (OpenSpec.ofChange rateForgetsWrong)

/-- 'bellwetherlaw06.LogKeeps': WHATEVER THE INPUT: true; the input reads as it did. -/
def logKeepsSpec : ChangeSpec := { name := "logKeeps", fn := fun _ => fun
  | [d1, d2, d3, d4] => { results := [.lit (.bool true)], args := [d1, d2, d3, d4] }
  | _ => none }
def logKeepsRow : OpenClaim := { program := "ytbedfoeifaegmaa", sum := "0d3e883375d0a6579ee33b6919f081548753452220bc8ffe9ae4bba26a1f7ff2", func := "bellwether/bellwetherlaw06.LogKeeps", spec := "logKeeps", unfollowed := true, recurses := true, apart := false }
def LogKeepsSaid : Prop := logKeepsRow.holds Try.pinned (OpenSpec.ofChange logKeepsSpec)

/-- ITS FALSE NEIGHBOUR: 'it returns false'. Refute it at one input. -/
def logKeepsWrong : ChangeSpec := { name := "logKeeps", fn := fun _ => fun
  | [d1, d2, d3, d4] => { results := [.lit (.bool false)], args := [d1, d2, d3, d4] }
  | _ => none }
def LogKeepsWrongFalsely : Prop := logKeepsRow.holds Try.pinned (OpenSpec.ofChange logKeepsWrong)

/-- 'bellwetherlaw06.LogFades': WHATEVER THE INPUT: true; the input reads as it did. -/
def logFadesSpec : ChangeSpec := { name := "logFades", fn := fun _ => fun
  | [d1, d2, d3, d4] => { results := [.lit (.bool true)], args := [d1, d2, d3, d4] }
  | _ => none }
def logFadesRow : OpenClaim := { program := "ytbedfoeifaegmaa", sum := "0d3e883375d0a6579ee33b6919f081548753452220bc8ffe9ae4bba26a1f7ff2", func := "bellwether/bellwetherlaw06.LogFades", spec := "logFades", unfollowed := true, recurses := true, apart := false }
def LogFadesSaid : Prop := logFadesRow.holds Try.pinned (OpenSpec.ofChange logFadesSpec)

/-- ITS FALSE NEIGHBOUR: 'it returns false'. Refute it at one input. -/
def logFadesWrong : ChangeSpec := { name := "logFades", fn := fun _ => fun
  | [d1, d2, d3, d4] => { results := [.lit (.bool false)], args := [d1, d2, d3, d4] }
  | _ => none }
def LogFadesWrongFalsely : Prop := logFadesRow.holds Try.pinned (OpenSpec.ofChange logFadesWrong)

/-- 'bellwetherlaw06.LogCaps': WHATEVER THE INPUT: true; the input reads as it did. -/
def logCapsSpec : ChangeSpec := { name := "logCaps", fn := fun _ => fun
  | [d1, d2] => { results := [.lit (.bool true)], args := [d1, d2] }
  | _ => none }
def logCapsRow : OpenClaim := { program := "ytbedfoeifaegmaa", sum := "0d3e883375d0a6579ee33b6919f081548753452220bc8ffe9ae4bba26a1f7ff2", func := "bellwether/bellwetherlaw06.LogCaps", spec := "logCaps", unfollowed := true, recurses := true, apart := false }
def LogCapsSaid : Prop := logCapsRow.holds Try.pinned (OpenSpec.ofChange logCapsSpec)

/-- ITS FALSE NEIGHBOUR: 'it returns false'. Refute it at one input. -/
def logCapsWrong : ChangeSpec := { name := "logCaps", fn := fun _ => fun
  | [d1, d2] => { results := [.lit (.bool false)], args := [d1, d2] }
  | _ => none }
def LogCapsWrongFalsely : Prop := logCapsRow.holds Try.pinned (OpenSpec.ofChange logCapsWrong)

/-- 'bellwetherlaw06.LogWider': WHATEVER THE INPUT: true; the input reads as it did. -/
def logWiderSpec : ChangeSpec := { name := "logWider", fn := fun _ => fun
  | [d1, d2, d3, d4] => { results := [.lit (.bool true)], args := [d1, d2, d3, d4] }
  | _ => none }
def logWiderRow : OpenClaim := { program := "ytbedfoeifaegmaa", sum := "0d3e883375d0a6579ee33b6919f081548753452220bc8ffe9ae4bba26a1f7ff2", func := "bellwether/bellwetherlaw06.LogWider", spec := "logWider", unfollowed := true, recurses := true, apart := false }
def LogWiderSaid : Prop := logWiderRow.holds Try.pinned (OpenSpec.ofChange logWiderSpec)

/-- ITS FALSE NEIGHBOUR: 'it returns false'. Refute it at one input. -/
def logWiderWrong : ChangeSpec := { name := "logWider", fn := fun _ => fun
  | [d1, d2, d3, d4] => { results := [.lit (.bool false)], args := [d1, d2, d3, d4] }
  | _ => none }
def LogWiderWrongFalsely : Prop := logWiderRow.holds Try.pinned (OpenSpec.ofChange logWiderWrong)

/- THE SECOND FORM. 'bulk': how many values and letters a reading holds, each counted each time it is reached (what is shared counts as often as it is met; a slice's spare places count too). A statement '..UptoSaid' is the law's where the arguments, and the package variables that the reading takes, are together of bulk at most 1048576: NARROWER than '..Said'. Prove '..Said' where nothing that the law and all that it calls make is longer than what came in: it says more and counts as full. Else prove '..UptoSaid'. A law counts once. -/
mutual
def uptoBulk {H : Type} : DataW H → Nat
  | .lit (.string bytes) => bytes.length + 1
  | .lit _ => 1
  | .nil => 1
  | .ptr d => uptoBulk d + 1
  | .slice elems spare => uptoBulkAll elems + uptoBulkAll spare + 1
  | .agg parts => uptoBulkAll parts + 1
  | .iface _ d => uptoBulk d + 1
  | .map entries => uptoBulkEntries entries + 1
  | .held _ => 1
def uptoBulkAll {H : Type} : List (DataW H) → Nat
  | [] => 0
  | d :: r => uptoBulk d + uptoBulkAll r
def uptoBulkEntries {H : Type} : List (Lit × DataW H) → Nat
  | [] => 0
  | x :: r => uptoBulkEntry x + uptoBulkEntries r
def uptoBulkEntry {H : Type} : Lit × DataW H → Nat
  | (.string bytes, d) => bytes.length + uptoBulk d + 1
  | (_, d) => uptoBulk d + 1
 end
def uptoSmall : (H : Type) → List (DataW H) → Bool := fun _ ds => decide (uptoBulkAll ds ≤ 1048576)
def OpenSpec.upto (s : _root_.Go.ChangeSpec) : _root_.Go.OpenSpec := { _root_.Go.OpenSpec.ofChange s with cond := some uptoSmall }

/-- 'bellwetherlaw07.RateTakes', WHERE WHAT IT READS IS OF BULK AT MOST 1048576: true; the input reads as it did. -/
def rateTakesUptoRow : OpenClaim := { program := "ytbedfoeifaegmaa", sum := "0d3e883375d0a6579ee33b6919f081548753452220bc8ffe9ae4bba26a1f7ff2", func := "bellwether/bellwetherlaw07.RateTakes", spec := "rateTakes", unfollowed := true, recurses := true, apart := false, narrowed := true }
def RateTakesUptoSaid : Prop := rateTakesUptoRow.holds Try.pinned (OpenSpec.upto rateTakesSpec)

/-- 'bellwetherlaw07.RateMany', WHERE WHAT IT READS IS OF BULK AT MOST 1048576: true; the input reads as it did. -/
def rateManyUptoRow : OpenClaim := { program := "ytbedfoeifaegmaa", sum := "0d3e883375d0a6579ee33b6919f081548753452220bc8ffe9ae4bba26a1f7ff2", func := "bellwether/bellwetherlaw07.RateMany", spec := "rateMany", unfollowed := true, recurses := true, apart := false, narrowed := true }
def RateManyUptoSaid : Prop := rateManyUptoRow.holds Try.pinned (OpenSpec.upto rateManySpec)

/-- 'bellwetherlaw07.RateFair', WHERE WHAT IT READS IS OF BULK AT MOST 1048576: true; the input reads as it did. -/
def rateFairUptoRow : OpenClaim := { program := "ytbedfoeifaegmaa", sum := "0d3e883375d0a6579ee33b6919f081548753452220bc8ffe9ae4bba26a1f7ff2", func := "bellwether/bellwetherlaw07.RateFair", spec := "rateFair", unfollowed := true, recurses := true, apart := false, narrowed := true }
def RateFairUptoSaid : Prop := rateFairUptoRow.holds Try.pinned (OpenSpec.upto rateFairSpec)

/-- 'bellwetherlaw07.RateForgets', WHERE WHAT IT READS IS OF BULK AT MOST 1048576: true; the input reads as it did. -/
def rateForgetsUptoRow : OpenClaim := { program := "ytbedfoeifaegmaa", sum := "0d3e883375d0a6579ee33b6919f081548753452220bc8ffe9ae4bba26a1f7ff2", func := "bellwether/bellwetherlaw07.RateForgets", spec := "rateForgets", unfollowed := true, recurses := true, apart := false, narrowed := true }
def RateForgetsUptoSaid : Prop := rateForgetsUptoRow.holds Try.pinned (OpenSpec.upto rateForgetsSpec)

/-- 'bellwetherlaw06.LogKeeps', WHERE WHAT IT READS IS OF BULK AT MOST 1048576: true; the input reads as it did. -/
def logKeepsUptoRow : OpenClaim := { program := "ytbedfoeifaegmaa", sum := "0d3e883375d0a6579ee33b6919f081548753452220bc8ffe9ae4bba26a1f7ff2", func := "bellwether/bellwetherlaw06.LogKeeps", spec := "logKeeps", unfollowed := true, recurses := true, apart := false, narrowed := true }
def LogKeepsUptoSaid : Prop := logKeepsUptoRow.holds Try.pinned (OpenSpec.upto logKeepsSpec)

/-- 'bellwetherlaw06.LogFades', WHERE WHAT IT READS IS OF BULK AT MOST 1048576: true; the input reads as it did. -/
def logFadesUptoRow : OpenClaim := { program := "ytbedfoeifaegmaa", sum := "0d3e883375d0a6579ee33b6919f081548753452220bc8ffe9ae4bba26a1f7ff2", func := "bellwether/bellwetherlaw06.LogFades", spec := "logFades", unfollowed := true, recurses := true, apart := false, narrowed := true }
def LogFadesUptoSaid : Prop := logFadesUptoRow.holds Try.pinned (OpenSpec.upto logFadesSpec)

/-- 'bellwetherlaw06.LogCaps', WHERE WHAT IT READS IS OF BULK AT MOST 1048576: true; the input reads as it did. -/
def logCapsUptoRow : OpenClaim := { program := "ytbedfoeifaegmaa", sum := "0d3e883375d0a6579ee33b6919f081548753452220bc8ffe9ae4bba26a1f7ff2", func := "bellwether/bellwetherlaw06.LogCaps", spec := "logCaps", unfollowed := true, recurses := true, apart := false, narrowed := true }
def LogCapsUptoSaid : Prop := logCapsUptoRow.holds Try.pinned (OpenSpec.upto logCapsSpec)

/-- 'bellwetherlaw06.LogWider', WHERE WHAT IT READS IS OF BULK AT MOST 1048576: true; the input reads as it did. -/
def logWiderUptoRow : OpenClaim := { program := "ytbedfoeifaegmaa", sum := "0d3e883375d0a6579ee33b6919f081548753452220bc8ffe9ae4bba26a1f7ff2", func := "bellwether/bellwetherlaw06.LogWider", spec := "logWider", unfollowed := true, recurses := true, apart := false, narrowed := true }
def LogWiderUptoSaid : Prop := logWiderUptoRow.holds Try.pinned (OpenSpec.upto logWiderSpec)

end Rows
end Go.Proofs.Ytbedfoeifaegmaa
