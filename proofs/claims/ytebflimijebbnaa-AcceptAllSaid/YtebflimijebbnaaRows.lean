/-
  No cell of these rows narrows 'for every input' (looked for: loops, veiled, ifaces, maps, wideKeys, modest, calm, conditions, laid).
  DERIVED. THE GIVEN ROWS OF THIS SEAT. 4 by the template 'for every input the law returns true; each argument reads behind the call as it read before'; 0 by the template 'total and deterministic' (their statements: YtebflimijebbnaaTotals.lean).
  GIVEN WITH THE SEED: the statements are not yours to turn. If you find one false, say at which input.
  Laid BY PROGRAM, IN A SANDBOX (cutbox-rows.mjs): the forced cells as the released guide's own fill.sh prints them over the translation 9b9c6c81a3c32017… (all of the seat's roots in one cut). By AI agents, Wed Nov 11 2026. No macro, syntax, notation, axiom, sorry.
-/
import Derived.Test.YtebflimijebbnaaChecked
import GoSem.Claim
import GoSem.ClaimJoined
import GoSem.ClaimMapViews
import Derived.JoinedTies
import Derived.KernelRfl
namespace Go.Proofs.Ytebflimijebbnaa
/- THE CELL 'sum', in the pinned program and in every row, IS THE sha256 OF THE DUMP (.gsa) THAT YtebflimijebbnaaProg.lean LOADS. Nothing in Lean hashes anything: it is a label: what it is worth is what the hold of that sum in a sandbox is worth. -/
noncomputable def Try.pinned : Pinned := { name := "ytebflimijebbnaa", sum := "9b9c6c81a3c32017d3f82373242f25733b5611fd82de5eb7cd32b4f3dad56c74", checked := Try.checked }
namespace Rows
def none {H : Type} : Left H := { results := [], args := [] }

/-- 'bellwetherlaw24.AcceptChecks': WHATEVER THE INPUT: true; the input reads as it did. -/
def acceptChecksSpec : ChangeSpec := { name := "acceptChecks", fn := fun _ => fun
  | [d1, d2, d3, d4] => { results := [.lit (.bool true)], args := [d1, d2, d3, d4] }
  | _ => none }
def acceptChecksRow : OpenClaim := { program := "ytebflimijebbnaa", sum := "9b9c6c81a3c32017d3f82373242f25733b5611fd82de5eb7cd32b4f3dad56c74", func := "bellwether/bellwetherlaw24.AcceptChecks", spec := "acceptChecks", unfollowed := true, recurses := true, apart := false }
def AcceptChecksSaid : Prop := acceptChecksRow.holds Try.pinned (OpenSpec.ofChange acceptChecksSpec)

/-- ITS FALSE NEIGHBOUR: 'it returns false'. Refute it at one input. -/
def acceptChecksWrong : ChangeSpec := { name := "acceptChecks", fn := fun _ => fun
  | [d1, d2, d3, d4] => { results := [.lit (.bool false)], args := [d1, d2, d3, d4] }
  | _ => none }
def AcceptChecksWrongFalsely : Prop := acceptChecksRow.holds Try.pinned (OpenSpec.ofChange acceptChecksWrong)

/-- 'bellwetherlaw24.AcceptAll': WHATEVER THE INPUT: true; the input reads as it did. -/
def acceptAllSpec : ChangeSpec := { name := "acceptAll", fn := fun _ => fun
  | [d1, d2, d3] => { results := [.lit (.bool true)], args := [d1, d2, d3] }
  | _ => none }
def acceptAllRow : OpenClaim := { program := "ytebflimijebbnaa", sum := "9b9c6c81a3c32017d3f82373242f25733b5611fd82de5eb7cd32b4f3dad56c74", func := "bellwether/bellwetherlaw24.AcceptAll", spec := "acceptAll", unfollowed := true, recurses := true, apart := false }
def AcceptAllSaid : Prop := acceptAllRow.holds Try.pinned (OpenSpec.ofChange acceptAllSpec)

/-- ITS FALSE NEIGHBOUR: 'it returns false'. Refute it at one input. -/
def acceptAllWrong : ChangeSpec := { name := "acceptAll", fn := fun _ => fun
  | [d1, d2, d3] => { results := [.lit (.bool false)], args := [d1, d2, d3] }
  | _ => none }
def AcceptAllWrongFalsely : Prop := acceptAllRow.holds Try.pinned (OpenSpec.ofChange acceptAllWrong)

/-- 'bellwetherlaw24.AcceptOwners': WHATEVER THE INPUT: true; the input reads as it did. -/
def acceptOwnersSpec : ChangeSpec := { name := "acceptOwners", fn := fun _ => fun
  | [d1, d2, d3, d4] => { results := [.lit (.bool true)], args := [d1, d2, d3, d4] }
  | _ => none }
def acceptOwnersRow : OpenClaim := { program := "ytebflimijebbnaa", sum := "9b9c6c81a3c32017d3f82373242f25733b5611fd82de5eb7cd32b4f3dad56c74", func := "bellwether/bellwetherlaw24.AcceptOwners", spec := "acceptOwners", unfollowed := true, recurses := true, apart := false }
def AcceptOwnersSaid : Prop := acceptOwnersRow.holds Try.pinned (OpenSpec.ofChange acceptOwnersSpec)

/-- ITS FALSE NEIGHBOUR: 'it returns false'. Refute it at one input. -/
def acceptOwnersWrong : ChangeSpec := { name := "acceptOwners", fn := fun _ => fun
  | [d1, d2, d3, d4] => { results := [.lit (.bool false)], args := [d1, d2, d3, d4] }
  | _ => none }
def AcceptOwnersWrongFalsely : Prop := acceptOwnersRow.holds Try.pinned (OpenSpec.ofChange acceptOwnersWrong)

/-- 'bellwetherlaw24.AcceptOne': WHATEVER THE INPUT: true; the input reads as it did. -/
def acceptOneSpec : ChangeSpec := { name := "acceptOne", fn := fun _ => fun
  | [d1, d2, d3] => { results := [.lit (.bool true)], args := [d1, d2, d3] }
  | _ => none }
def acceptOneRow : OpenClaim := { program := "ytebflimijebbnaa", sum := "9b9c6c81a3c32017d3f82373242f25733b5611fd82de5eb7cd32b4f3dad56c74", func := "bellwether/bellwetherlaw24.AcceptOne", spec := "acceptOne", unfollowed := true, recurses := true, apart := false }
def AcceptOneSaid : Prop := acceptOneRow.holds Try.pinned (OpenSpec.ofChange acceptOneSpec)

/-- ITS FALSE NEIGHBOUR: 'it returns false'. Refute it at one input. -/
def acceptOneWrong : ChangeSpec := { name := "acceptOne", fn := fun _ => fun
  | [d1, d2, d3] => { results := [.lit (.bool false)], args := [d1, d2, d3] }
  | _ => none }
def AcceptOneWrongFalsely : Prop := acceptOneRow.holds Try.pinned (OpenSpec.ofChange acceptOneWrong)

/- THE SECOND FORM. 'bulk': how many values and letters a reading holds, each counted each time it is reached (what is shared counts as often as it is met; a slice's spare places count too). A statement '..UptoSaid' is the law's where the arguments, and the package variables that the reading takes, are together of bulk at most 1048576: NARROWER than '..Said'. Prove '..Said' where nothing that the law and all that it calls make is longer than what came in: it says more and counts as full. Else prove '..UptoSaid'. A law counts once. -/
mutual
def uptoBulk {H : Type} : DataW H → Nat
  | .lit (.string bytes) => bytes.length + 1
  | .lit _ => 1
  | .nil => 1
  | .ptr d => uptoBulk d + 1
  | .slice elems spare => uptoBulkAll elems + uptoBulkAll spare + 1
  | .agg parts => uptoBulkAll parts + 1
  | .iface _ d => uptoBulk d + 1
  | .map entries => uptoBulkEntries entries + 1
  | .held _ => 1
def uptoBulkAll {H : Type} : List (DataW H) → Nat
  | [] => 0
  | d :: r => uptoBulk d + uptoBulkAll r
def uptoBulkEntries {H : Type} : List (Lit × DataW H) → Nat
  | [] => 0
  | x :: r => uptoBulkEntry x + uptoBulkEntries r
def uptoBulkEntry {H : Type} : Lit × DataW H → Nat
  | (.string bytes, d) => bytes.length + uptoBulk d + 1
  | (_, d) => uptoBulk d + 1
 end
def uptoSmall : (H : Type) → List (DataW H) → Bool := fun _ ds => decide (uptoBulkAll ds ≤ 1048576)
def OpenSpec.upto (s : _root_.Go.ChangeSpec) : _root_.Go.OpenSpec := { _root_.Go.OpenSpec.ofChange s with cond := some uptoSmall }

/-- 'bellwetherlaw24.AcceptChecks', WHERE WHAT IT READS IS OF BULK AT MOST 1048576: true; the input reads as it did. -/
def acceptChecksUptoRow : OpenClaim := { program := "ytebflimijebbnaa", sum := "9b9c6c81a3c32017d3f82373242f25733b5611fd82de5eb7cd32b4f3dad56c74", func := "bellwether/bellwetherlaw24.AcceptChecks", spec := "acceptChecks", unfollowed := true, recurses := true, apart := false, narrowed := true }
def AcceptChecksUptoSaid : Prop := acceptChecksUptoRow.holds Try.pinned (OpenSpec.upto acceptChecksSpec)

/-- 'bellwetherlaw24.AcceptAll', WHERE WHAT IT READS IS OF BULK AT MOST 1048576: true; the input reads as it did. -/
def acceptAllUptoRow : OpenClaim := { program := "ytebflimijebbnaa", sum := "9b9c6c81a3c32017d3f82373242f25733b5611fd82de5eb7cd32b4f3dad56c74", func := "bellwether/bellwetherlaw24.AcceptAll", spec := "acceptAll", unfollowed := true, recurses := true, apart := false, narrowed := true }
def AcceptAllUptoSaid : Prop := acceptAllUptoRow.holds Try.pinned (OpenSpec.upto acceptAllSpec)

/-- 'bellwetherlaw24.AcceptOwners', WHERE WHAT IT READS IS OF BULK AT MOST 1048576: true; the input reads as it did. -/
def acceptOwnersUptoRow : OpenClaim := { program := "ytebflimijebbnaa", sum := "9b9c6c81a3c32017d3f82373242f25733b5611fd82de5eb7cd32b4f3dad56c74", func := "bellwether/bellwetherlaw24.AcceptOwners", spec := "acceptOwners", unfollowed := true, recurses := true, apart := false, narrowed := true }
def AcceptOwnersUptoSaid : Prop := acceptOwnersUptoRow.holds Try.pinned (OpenSpec.upto acceptOwnersSpec)

/-- 'bellwetherlaw24.AcceptOne', WHERE WHAT IT READS IS OF BULK AT MOST 1048576: true; the input reads as it did. -/
def acceptOneUptoRow : OpenClaim := { program := "ytebflimijebbnaa", sum := "9b9c6c81a3c32017d3f82373242f25733b5611fd82de5eb7cd32b4f3dad56c74", func := "bellwether/bellwetherlaw24.AcceptOne", spec := "acceptOne", unfollowed := true, recurses := true, apart := false, narrowed := true }
def AcceptOneUptoSaid : Prop := acceptOneUptoRow.holds Try.pinned (OpenSpec.upto acceptOneSpec)

end Rows
end Go.Proofs.Ytebflimijebbnaa
