/-
  No cell of these rows narrows 'for every input' (looked for: loops, veiled, ifaces, maps, wideKeys, modest, calm, conditions, laid).
  DERIVED. THE GIVEN ROWS OF THIS SEAT. 7 by the template 'for every input the law returns true; each argument reads behind the call as it read before'; 0 by the template 'total and deterministic' (their statements: YthdoghhmooodjaaTotals.lean).
  GIVEN WITH THE SEED: the statements are not yours to turn. If you find one false, say at which input.
  Laid BY PROGRAM, IN A SANDBOX (cutbox-rows.mjs): the forced cells as the released guide's own fill.sh prints them over the translation f1a2e247371904ea… (all of the seat's roots in one cut). By AI agents, Wed Nov 11 2026. No macro, syntax, notation, axiom, sorry.
-/
import Derived.Test.YthdoghhmooodjaaChecked
import GoSem.Claim
import GoSem.ClaimJoined
import GoSem.ClaimMapViews
import Derived.JoinedTies
import Derived.KernelRfl
namespace Go.Proofs.Ythdoghhmooodjaa
/- THE CELL 'sum', in the pinned program and in every row, IS THE sha256 OF THE DUMP (.gsa) THAT YthdoghhmooodjaaProg.lean LOADS. Nothing in Lean hashes anything: it is a label: what it is worth is what the hold of that sum in a sandbox is worth. -/
noncomputable def Try.pinned : Pinned := { name := "ythdoghhmooodjaa", sum := "f1a2e247371904ea38465b4d4298262d1b7d18290b2022e85bbd9310e8e3742b", checked := Try.checked }
namespace Rows
def none {H : Type} : Left H := { results := [], args := [] }

/-- 'bellwetherlaw33.ScriptRight': WHATEVER THE INPUT: true; the input reads as it did. -/
def scriptRightSpec : ChangeSpec := { name := "scriptRight", fn := fun _ => fun
  | [d] => { results := [.lit (.bool true)], args := [d] }
  | _ => none }
def scriptRightRow : OpenClaim := { program := "ythdoghhmooodjaa", sum := "f1a2e247371904ea38465b4d4298262d1b7d18290b2022e85bbd9310e8e3742b", func := "bellwether/bellwetherlaw33.ScriptRight", spec := "scriptRight", unfollowed := true, recurses := true, apart := false }
def ScriptRightSaid : Prop := scriptRightRow.holds Try.pinned (OpenSpec.ofChange scriptRightSpec)

/-- ITS FALSE NEIGHBOUR: 'it returns false'. Refute it at one input. -/
def scriptRightWrong : ChangeSpec := { name := "scriptRight", fn := fun _ => fun
  | [d] => { results := [.lit (.bool false)], args := [d] }
  | _ => none }
def ScriptRightWrongFalsely : Prop := scriptRightRow.holds Try.pinned (OpenSpec.ofChange scriptRightWrong)

/-- 'bellwetherlaw33.ScriptReads': WHATEVER THE INPUT: true; the input reads as it did. -/
def scriptReadsSpec : ChangeSpec := { name := "scriptReads", fn := fun _ => fun
  | [d1, d2, d3, d4] => { results := [.lit (.bool true)], args := [d1, d2, d3, d4] }
  | _ => none }
def scriptReadsRow : OpenClaim := { program := "ythdoghhmooodjaa", sum := "f1a2e247371904ea38465b4d4298262d1b7d18290b2022e85bbd9310e8e3742b", func := "bellwether/bellwetherlaw33.ScriptReads", spec := "scriptReads", unfollowed := true, recurses := true, apart := false }
def ScriptReadsSaid : Prop := scriptReadsRow.holds Try.pinned (OpenSpec.ofChange scriptReadsSpec)

/-- ITS FALSE NEIGHBOUR: 'it returns false'. Refute it at one input. -/
def scriptReadsWrong : ChangeSpec := { name := "scriptReads", fn := fun _ => fun
  | [d1, d2, d3, d4] => { results := [.lit (.bool false)], args := [d1, d2, d3, d4] }
  | _ => none }
def ScriptReadsWrongFalsely : Prop := scriptReadsRow.holds Try.pinned (OpenSpec.ofChange scriptReadsWrong)

/-- 'bellwetherlaw33.ScriptCuts': WHATEVER THE INPUT: true; the input reads as it did. -/
def scriptCutsSpec : ChangeSpec := { name := "scriptCuts", fn := fun _ => fun
  | [d1, d2, d3] => { results := [.lit (.bool true)], args := [d1, d2, d3] }
  | _ => none }
def scriptCutsRow : OpenClaim := { program := "ythdoghhmooodjaa", sum := "f1a2e247371904ea38465b4d4298262d1b7d18290b2022e85bbd9310e8e3742b", func := "bellwether/bellwetherlaw33.ScriptCuts", spec := "scriptCuts", unfollowed := true, recurses := true, apart := false }
def ScriptCutsSaid : Prop := scriptCutsRow.holds Try.pinned (OpenSpec.ofChange scriptCutsSpec)

/-- ITS FALSE NEIGHBOUR: 'it returns false'. Refute it at one input. -/
def scriptCutsWrong : ChangeSpec := { name := "scriptCuts", fn := fun _ => fun
  | [d1, d2, d3] => { results := [.lit (.bool false)], args := [d1, d2, d3] }
  | _ => none }
def ScriptCutsWrongFalsely : Prop := scriptCutsRow.holds Try.pinned (OpenSpec.ofChange scriptCutsWrong)

/-- 'bellwetherlaw33.ScriptHonest': WHATEVER THE INPUT: true; the input reads as it did. -/
def scriptHonestSpec : ChangeSpec := { name := "scriptHonest", fn := fun _ => fun
  | [d] => { results := [.lit (.bool true)], args := [d] }
  | _ => none }
def scriptHonestRow : OpenClaim := { program := "ythdoghhmooodjaa", sum := "f1a2e247371904ea38465b4d4298262d1b7d18290b2022e85bbd9310e8e3742b", func := "bellwether/bellwetherlaw33.ScriptHonest", spec := "scriptHonest", unfollowed := true, recurses := true, apart := false }
def ScriptHonestSaid : Prop := scriptHonestRow.holds Try.pinned (OpenSpec.ofChange scriptHonestSpec)

/-- ITS FALSE NEIGHBOUR: 'it returns false'. Refute it at one input. -/
def scriptHonestWrong : ChangeSpec := { name := "scriptHonest", fn := fun _ => fun
  | [d] => { results := [.lit (.bool false)], args := [d] }
  | _ => none }
def ScriptHonestWrongFalsely : Prop := scriptHonestRow.holds Try.pinned (OpenSpec.ofChange scriptHonestWrong)

/-- 'bellwetherlaw34.PremiseCalm': WHATEVER THE INPUT: true; the input reads as it did. -/
def premiseCalmSpec : ChangeSpec := { name := "premiseCalm", fn := fun _ => fun
  | [d1, d2] => { results := [.lit (.bool true)], args := [d1, d2] }
  | _ => none }
def premiseCalmRow : OpenClaim := { program := "ythdoghhmooodjaa", sum := "f1a2e247371904ea38465b4d4298262d1b7d18290b2022e85bbd9310e8e3742b", func := "bellwether/bellwetherlaw34.PremiseCalm", spec := "premiseCalm", unfollowed := true, recurses := true, apart := false }
def PremiseCalmSaid : Prop := premiseCalmRow.holds Try.pinned (OpenSpec.ofChange premiseCalmSpec)

/-- ITS FALSE NEIGHBOUR: 'it returns false'. Refute it at one input. -/
def premiseCalmWrong : ChangeSpec := { name := "premiseCalm", fn := fun _ => fun
  | [d1, d2] => { results := [.lit (.bool false)], args := [d1, d2] }
  | _ => none }
def PremiseCalmWrongFalsely : Prop := premiseCalmRow.holds Try.pinned (OpenSpec.ofChange premiseCalmWrong)

/-- 'bellwetherlaw34.PremiseLast': WHATEVER THE INPUT: true; the input reads as it did. -/
def premiseLastSpec : ChangeSpec := { name := "premiseLast", fn := fun _ => fun
  | [d] => { results := [.lit (.bool true)], args := [d] }
  | _ => none }
def premiseLastRow : OpenClaim := { program := "ythdoghhmooodjaa", sum := "f1a2e247371904ea38465b4d4298262d1b7d18290b2022e85bbd9310e8e3742b", func := "bellwether/bellwetherlaw34.PremiseLast", spec := "premiseLast", unfollowed := true, recurses := true, apart := false }
def PremiseLastSaid : Prop := premiseLastRow.holds Try.pinned (OpenSpec.ofChange premiseLastSpec)

/-- ITS FALSE NEIGHBOUR: 'it returns false'. Refute it at one input. -/
def premiseLastWrong : ChangeSpec := { name := "premiseLast", fn := fun _ => fun
  | [d] => { results := [.lit (.bool false)], args := [d] }
  | _ => none }
def PremiseLastWrongFalsely : Prop := premiseLastRow.holds Try.pinned (OpenSpec.ofChange premiseLastWrong)

/-- 'bellwetherlaw34.PremiseAfter': WHATEVER THE INPUT: true; the input reads as it did. -/
def premiseAfterSpec : ChangeSpec := { name := "premiseAfter", fn := fun _ => fun
  | [d1, d2] => { results := [.lit (.bool true)], args := [d1, d2] }
  | _ => none }
def premiseAfterRow : OpenClaim := { program := "ythdoghhmooodjaa", sum := "f1a2e247371904ea38465b4d4298262d1b7d18290b2022e85bbd9310e8e3742b", func := "bellwether/bellwetherlaw34.PremiseAfter", spec := "premiseAfter", unfollowed := true, recurses := true, apart := false }
def PremiseAfterSaid : Prop := premiseAfterRow.holds Try.pinned (OpenSpec.ofChange premiseAfterSpec)

/-- ITS FALSE NEIGHBOUR: 'it returns false'. Refute it at one input. -/
def premiseAfterWrong : ChangeSpec := { name := "premiseAfter", fn := fun _ => fun
  | [d1, d2] => { results := [.lit (.bool false)], args := [d1, d2] }
  | _ => none }
def PremiseAfterWrongFalsely : Prop := premiseAfterRow.holds Try.pinned (OpenSpec.ofChange premiseAfterWrong)

/- THE SECOND FORM. 'bulk': how many values and letters a reading holds, each counted each time it is reached (what is shared counts as often as it is met; a slice's spare places count too). A statement '..UptoSaid' is the law's where the arguments, and the package variables that the reading takes, are together of bulk at most 1048576: NARROWER than '..Said'. Prove '..Said' where nothing that the law and all that it calls make is longer than what came in: it says more and counts as full. Else prove '..UptoSaid'. A law counts once. -/
mutual
def uptoBulk {H : Type} : DataW H → Nat
  | .lit (.string bytes) => bytes.length + 1
  | .lit _ => 1
  | .nil => 1
  | .ptr d => uptoBulk d + 1
  | .slice elems spare => uptoBulkAll elems + uptoBulkAll spare + 1
  | .agg parts => uptoBulkAll parts + 1
  | .iface _ d => uptoBulk d + 1
  | .map entries => uptoBulkEntries entries + 1
  | .held _ => 1
def uptoBulkAll {H : Type} : List (DataW H) → Nat
  | [] => 0
  | d :: r => uptoBulk d + uptoBulkAll r
def uptoBulkEntries {H : Type} : List (Lit × DataW H) → Nat
  | [] => 0
  | x :: r => uptoBulkEntry x + uptoBulkEntries r
def uptoBulkEntry {H : Type} : Lit × DataW H → Nat
  | (.string bytes, d) => bytes.length + uptoBulk d + 1
  | (_, d) => uptoBulk d + 1
 end
def uptoSmall : (H : Type) → List (DataW H) → Bool := fun _ ds => decide (uptoBulkAll ds ≤ 1048576)
def OpenSpec.upto (s : _root_.Go.ChangeSpec) : _root_.Go.OpenSpec := { _root_.Go.OpenSpec.ofChange s with cond := some uptoSmall }

/-- 'bellwetherlaw33.ScriptRight', WHERE WHAT IT READS IS OF BULK AT MOST 1048576: true; the input reads as it did. -/
def scriptRightUptoRow : OpenClaim := { program := "ythdoghhmooodjaa", sum := "f1a2e247371904ea38465b4d4298262d1b7d18290b2022e85bbd9310e8e3742b", func := "bellwether/bellwetherlaw33.ScriptRight", spec := "scriptRight", unfollowed := true, recurses := true, apart := false, narrowed := true }
def ScriptRightUptoSaid : Prop := scriptRightUptoRow.holds Try.pinned (OpenSpec.upto scriptRightSpec)

/-- 'bellwetherlaw33.ScriptReads', WHERE WHAT IT READS IS OF BULK AT MOST 1048576: true; the input reads as it did. -/
def scriptReadsUptoRow : OpenClaim := { program := "ythdoghhmooodjaa", sum := "f1a2e247371904ea38465b4d4298262d1b7d18290b2022e85bbd9310e8e3742b", func := "bellwether/bellwetherlaw33.ScriptReads", spec := "scriptReads", unfollowed := true, recurses := true, apart := false, narrowed := true }
def ScriptReadsUptoSaid : Prop := scriptReadsUptoRow.holds Try.pinned (OpenSpec.upto scriptReadsSpec)

/-- 'bellwetherlaw33.ScriptCuts', WHERE WHAT IT READS IS OF BULK AT MOST 1048576: true; the input reads as it did. -/
def scriptCutsUptoRow : OpenClaim := { program := "ythdoghhmooodjaa", sum := "f1a2e247371904ea38465b4d4298262d1b7d18290b2022e85bbd9310e8e3742b", func := "bellwether/bellwetherlaw33.ScriptCuts", spec := "scriptCuts", unfollowed := true, recurses := true, apart := false, narrowed := true }
def ScriptCutsUptoSaid : Prop := scriptCutsUptoRow.holds Try.pinned (OpenSpec.upto scriptCutsSpec)

/-- 'bellwetherlaw33.ScriptHonest', WHERE WHAT IT READS IS OF BULK AT MOST 1048576: true; the input reads as it did. -/
def scriptHonestUptoRow : OpenClaim := { program := "ythdoghhmooodjaa", sum := "f1a2e247371904ea38465b4d4298262d1b7d18290b2022e85bbd9310e8e3742b", func := "bellwether/bellwetherlaw33.ScriptHonest", spec := "scriptHonest", unfollowed := true, recurses := true, apart := false, narrowed := true }
def ScriptHonestUptoSaid : Prop := scriptHonestUptoRow.holds Try.pinned (OpenSpec.upto scriptHonestSpec)

/-- 'bellwetherlaw34.PremiseCalm', WHERE WHAT IT READS IS OF BULK AT MOST 1048576: true; the input reads as it did. -/
def premiseCalmUptoRow : OpenClaim := { program := "ythdoghhmooodjaa", sum := "f1a2e247371904ea38465b4d4298262d1b7d18290b2022e85bbd9310e8e3742b", func := "bellwether/bellwetherlaw34.PremiseCalm", spec := "premiseCalm", unfollowed := true, recurses := true, apart := false, narrowed := true }
def PremiseCalmUptoSaid : Prop := premiseCalmUptoRow.holds Try.pinned (OpenSpec.upto premiseCalmSpec)

/-- 'bellwetherlaw34.PremiseLast', WHERE WHAT IT READS IS OF BULK AT MOST 1048576: true; the input reads as it did. -/
def premiseLastUptoRow : OpenClaim := { program := "ythdoghhmooodjaa", sum := "f1a2e247371904ea38465b4d4298262d1b7d18290b2022e85bbd9310e8e3742b", func := "bellwether/bellwetherlaw34.PremiseLast", spec := "premiseLast", unfollowed := true, recurses := true, apart := false, narrowed := true }
def PremiseLastUptoSaid : Prop := premiseLastUptoRow.holds Try.pinned (OpenSpec.upto premiseLastSpec)

/-- 'bellwetherlaw34.PremiseAfter', WHERE WHAT IT READS IS OF BULK AT MOST 1048576: true; the input reads as it did. -/
def premiseAfterUptoRow : OpenClaim := { program := "ythdoghhmooodjaa", sum := "f1a2e247371904ea38465b4d4298262d1b7d18290b2022e85bbd9310e8e3742b", func := "bellwether/bellwetherlaw34.PremiseAfter", spec := "premiseAfter", unfollowed := true, recurses := true, apart := false, narrowed := true }
def PremiseAfterUptoSaid : Prop := premiseAfterUptoRow.holds Try.pinned (OpenSpec.upto premiseAfterSpec)

end Rows
end Go.Proofs.Ythdoghhmooodjaa
