/-
  No cell of these rows narrows 'for every input' (looked for: loops, veiled, ifaces, maps, wideKeys, modest, calm, conditions, laid).
  DERIVED. THE GIVEN ROWS OF THIS SEAT. 12 by the template 'for every input the law returns true; each argument reads behind the call as it read before'; 0 by the template 'total and deterministic' (their statements: YtjfcedhjmmnofaaTotals.lean).
  GIVEN WITH THE SEED: the statements are not yours to turn. If you find one false, say at which input.
  Laid BY PROGRAM, IN A SANDBOX (cutbox-rows.mjs): the forced cells as the released guide's own fill.sh prints them over the translation c55ef5fafdba0060… (all of the seat's roots in one cut). By AI agents, Wed Nov 11 2026. No macro, syntax, notation, axiom, sorry.
-/
import Derived.Test.YtjfcedhjmmnofaaChecked
import GoSem.Claim
import GoSem.ClaimJoined
import GoSem.ClaimMapViews
import Derived.JoinedTies
import Derived.KernelRfl
namespace Go.Proofs.Ytjfcedhjmmnofaa
/- THE CELL 'sum', in the pinned program and in every row, IS THE sha256 OF THE DUMP (.gsa) THAT YtjfcedhjmmnofaaProg.lean LOADS. Nothing in Lean hashes anything: it is a label: what it is worth is what the hold of that sum in a sandbox is worth. -/
noncomputable def Try.pinned : Pinned := { name := "ytjfcedhjmmnofaa", sum := "c55ef5fafdba0060ef9e2629fea7ed757da3c6a202961b44d694326d1a2cb0e8", checked := Try.checked }
namespace Rows
def none {H : Type} : Left H := { results := [], args := [] }

/-- 'bellwetherlaw21.SchedSlots': WHATEVER THE INPUT: true; the input reads as it did. -/
def schedSlotsSpec : ChangeSpec := { name := "schedSlots", fn := fun _ => fun
  | [d1, d2, d3, d4] => { results := [.lit (.bool true)], args := [d1, d2, d3, d4] }
  | _ => none }
def schedSlotsRow : OpenClaim := { program := "ytjfcedhjmmnofaa", sum := "c55ef5fafdba0060ef9e2629fea7ed757da3c6a202961b44d694326d1a2cb0e8", func := "bellwether/bellwetherlaw21.SchedSlots", spec := "schedSlots", unfollowed := true, recurses := true, apart := false }
def SchedSlotsSaid : Prop := schedSlotsRow.holds Try.pinned (OpenSpec.ofChange schedSlotsSpec)

/-- ITS FALSE NEIGHBOUR: 'it returns false'. Refute it at one input. -/
def schedSlotsWrong : ChangeSpec := { name := "schedSlots", fn := fun _ => fun
  | [d1, d2, d3, d4] => { results := [.lit (.bool false)], args := [d1, d2, d3, d4] }
  | _ => none }
def SchedSlotsWrongFalsely : Prop := schedSlotsRow.holds Try.pinned (OpenSpec.ofChange schedSlotsWrong)

/-- 'bellwetherlaw21.SchedOwned': WHATEVER THE INPUT: true; the input reads as it did. -/
def schedOwnedSpec : ChangeSpec := { name := "schedOwned", fn := fun _ => fun
  | [d1, d2, d3] => { results := [.lit (.bool true)], args := [d1, d2, d3] }
  | _ => none }
def schedOwnedRow : OpenClaim := { program := "ytjfcedhjmmnofaa", sum := "c55ef5fafdba0060ef9e2629fea7ed757da3c6a202961b44d694326d1a2cb0e8", func := "bellwether/bellwetherlaw21.SchedOwned", spec := "schedOwned", unfollowed := true, recurses := true, apart := false }
def SchedOwnedSaid : Prop := schedOwnedRow.holds Try.pinned (OpenSpec.ofChange schedOwnedSpec)

/-- ITS FALSE NEIGHBOUR: 'it returns false'. Refute it at one input. -/
def schedOwnedWrong : ChangeSpec := { name := "schedOwned", fn := fun _ => fun
  | [d1, d2, d3] => { results := [.lit (.bool false)], args := [d1, d2, d3] }
  | _ => none }
def SchedOwnedWrongFalsely : Prop := schedOwnedRow.holds Try.pinned (OpenSpec.ofChange schedOwnedWrong)

/-- 'bellwetherlaw21.SchedOne': WHATEVER THE INPUT: true; the input reads as it did. -/
def schedOneSpec : ChangeSpec := { name := "schedOne", fn := fun _ => fun
  | [d1, d2] => { results := [.lit (.bool true)], args := [d1, d2] }
  | _ => none }
def schedOneRow : OpenClaim := { program := "ytjfcedhjmmnofaa", sum := "c55ef5fafdba0060ef9e2629fea7ed757da3c6a202961b44d694326d1a2cb0e8", func := "bellwether/bellwetherlaw21.SchedOne", spec := "schedOne", unfollowed := true, recurses := true, apart := false }
def SchedOneSaid : Prop := schedOneRow.holds Try.pinned (OpenSpec.ofChange schedOneSpec)

/-- ITS FALSE NEIGHBOUR: 'it returns false'. Refute it at one input. -/
def schedOneWrong : ChangeSpec := { name := "schedOne", fn := fun _ => fun
  | [d1, d2] => { results := [.lit (.bool false)], args := [d1, d2] }
  | _ => none }
def SchedOneWrongFalsely : Prop := schedOneRow.holds Try.pinned (OpenSpec.ofChange schedOneWrong)

/-- 'bellwetherlaw21.SchedOnce': WHATEVER THE INPUT: true; the input reads as it did. -/
def schedOnceSpec : ChangeSpec := { name := "schedOnce", fn := fun _ => fun
  | [d1, d2, d3] => { results := [.lit (.bool true)], args := [d1, d2, d3] }
  | _ => none }
def schedOnceRow : OpenClaim := { program := "ytjfcedhjmmnofaa", sum := "c55ef5fafdba0060ef9e2629fea7ed757da3c6a202961b44d694326d1a2cb0e8", func := "bellwether/bellwetherlaw21.SchedOnce", spec := "schedOnce", unfollowed := true, recurses := true, apart := false }
def SchedOnceSaid : Prop := schedOnceRow.holds Try.pinned (OpenSpec.ofChange schedOnceSpec)

/-- ITS FALSE NEIGHBOUR: 'it returns false'. Refute it at one input. -/
def schedOnceWrong : ChangeSpec := { name := "schedOnce", fn := fun _ => fun
  | [d1, d2, d3] => { results := [.lit (.bool false)], args := [d1, d2, d3] }
  | _ => none }
def SchedOnceWrongFalsely : Prop := schedOnceRow.holds Try.pinned (OpenSpec.ofChange schedOnceWrong)

/-- 'bellwetherlaw04.BoundPlaces': WHATEVER THE INPUT: true; the input reads as it did. -/
def boundPlacesSpec : ChangeSpec := { name := "boundPlaces", fn := fun _ => fun
  | [d1, d2] => { results := [.lit (.bool true)], args := [d1, d2] }
  | _ => none }
def boundPlacesRow : OpenClaim := { program := "ytjfcedhjmmnofaa", sum := "c55ef5fafdba0060ef9e2629fea7ed757da3c6a202961b44d694326d1a2cb0e8", func := "bellwether/bellwetherlaw04.BoundPlaces", spec := "boundPlaces", apart := false }
def BoundPlacesSaid : Prop := boundPlacesRow.holds Try.pinned (OpenSpec.ofChange boundPlacesSpec)

/-- ITS FALSE NEIGHBOUR: 'it returns false'. Refute it at one input. -/
def boundPlacesWrong : ChangeSpec := { name := "boundPlaces", fn := fun _ => fun
  | [d1, d2] => { results := [.lit (.bool false)], args := [d1, d2] }
  | _ => none }
def BoundPlacesWrongFalsely : Prop := boundPlacesRow.holds Try.pinned (OpenSpec.ofChange boundPlacesWrong)

/-- 'bellwetherlaw04.BoundRight': WHATEVER THE INPUT: true; the input reads as it did. -/
def boundRightSpec : ChangeSpec := { name := "boundRight", fn := fun _ => fun
  | [d] => { results := [.lit (.bool true)], args := [d] }
  | _ => none }
def boundRightRow : OpenClaim := { program := "ytjfcedhjmmnofaa", sum := "c55ef5fafdba0060ef9e2629fea7ed757da3c6a202961b44d694326d1a2cb0e8", func := "bellwether/bellwetherlaw04.BoundRight", spec := "boundRight", apart := false }
def BoundRightSaid : Prop := boundRightRow.holds Try.pinned (OpenSpec.ofChange boundRightSpec)

/-- ITS FALSE NEIGHBOUR: 'it returns false'. Refute it at one input. -/
def boundRightWrong : ChangeSpec := { name := "boundRight", fn := fun _ => fun
  | [d] => { results := [.lit (.bool false)], args := [d] }
  | _ => none }
def BoundRightWrongFalsely : Prop := boundRightRow.holds Try.pinned (OpenSpec.ofChange boundRightWrong)

/-- 'bellwetherlaw04.BoundApart': WHATEVER THE INPUT: true; the input reads as it did. -/
def boundApartSpec : ChangeSpec := { name := "boundApart", fn := fun _ => fun
  | [d1, d2, d3] => { results := [.lit (.bool true)], args := [d1, d2, d3] }
  | _ => none }
def boundApartRow : OpenClaim := { program := "ytjfcedhjmmnofaa", sum := "c55ef5fafdba0060ef9e2629fea7ed757da3c6a202961b44d694326d1a2cb0e8", func := "bellwether/bellwetherlaw04.BoundApart", spec := "boundApart", apart := false }
def BoundApartSaid : Prop := boundApartRow.holds Try.pinned (OpenSpec.ofChange boundApartSpec)

/-- ITS FALSE NEIGHBOUR: 'it returns false'. Refute it at one input. -/
def boundApartWrong : ChangeSpec := { name := "boundApart", fn := fun _ => fun
  | [d1, d2, d3] => { results := [.lit (.bool false)], args := [d1, d2, d3] }
  | _ => none }
def BoundApartWrongFalsely : Prop := boundApartRow.holds Try.pinned (OpenSpec.ofChange boundApartWrong)

/-- 'bellwetherlaw04.BoundClocks': WHATEVER THE INPUT: true; the input reads as it did. -/
def boundClocksSpec : ChangeSpec := { name := "boundClocks", fn := fun _ => fun
  | [d1, d2, d3, d4] => { results := [.lit (.bool true)], args := [d1, d2, d3, d4] }
  | _ => none }
def boundClocksRow : OpenClaim := { program := "ytjfcedhjmmnofaa", sum := "c55ef5fafdba0060ef9e2629fea7ed757da3c6a202961b44d694326d1a2cb0e8", func := "bellwether/bellwetherlaw04.BoundClocks", spec := "boundClocks", apart := false }
def BoundClocksSaid : Prop := boundClocksRow.holds Try.pinned (OpenSpec.ofChange boundClocksSpec)

/-- ITS FALSE NEIGHBOUR: 'it returns false'. Refute it at one input. -/
def boundClocksWrong : ChangeSpec := { name := "boundClocks", fn := fun _ => fun
  | [d1, d2, d3, d4] => { results := [.lit (.bool false)], args := [d1, d2, d3, d4] }
  | _ => none }
def BoundClocksWrongFalsely : Prop := boundClocksRow.holds Try.pinned (OpenSpec.ofChange boundClocksWrong)

/-- 'bellwetherlaw20.NumberNext': WHATEVER THE INPUT: true; the input reads as it did. -/
def numberNextSpec : ChangeSpec := { name := "numberNext", fn := fun _ => fun
  | [d1, d2, d3, d4] => { results := [.lit (.bool true)], args := [d1, d2, d3, d4] }
  | _ => none }
def numberNextRow : OpenClaim := { program := "ytjfcedhjmmnofaa", sum := "c55ef5fafdba0060ef9e2629fea7ed757da3c6a202961b44d694326d1a2cb0e8", func := "bellwether/bellwetherlaw20.NumberNext", spec := "numberNext", unfollowed := true, recurses := true, apart := false }
def NumberNextSaid : Prop := numberNextRow.holds Try.pinned (OpenSpec.ofChange numberNextSpec)

/-- ITS FALSE NEIGHBOUR: 'it returns false'. Refute it at one input. -/
def numberNextWrong : ChangeSpec := { name := "numberNext", fn := fun _ => fun
  | [d1, d2, d3, d4] => { results := [.lit (.bool false)], args := [d1, d2, d3, d4] }
  | _ => none }
def NumberNextWrongFalsely : Prop := numberNextRow.holds Try.pinned (OpenSpec.ofChange numberNextWrong)

/-- 'bellwetherlaw20.NumberRows': WHATEVER THE INPUT: true; the input reads as it did. -/
def numberRowsSpec : ChangeSpec := { name := "numberRows", fn := fun _ => fun
  | [d1, d2, d3, d4] => { results := [.lit (.bool true)], args := [d1, d2, d3, d4] }
  | _ => none }
def numberRowsRow : OpenClaim := { program := "ytjfcedhjmmnofaa", sum := "c55ef5fafdba0060ef9e2629fea7ed757da3c6a202961b44d694326d1a2cb0e8", func := "bellwether/bellwetherlaw20.NumberRows", spec := "numberRows", unfollowed := true, recurses := true, apart := false }
def NumberRowsSaid : Prop := numberRowsRow.holds Try.pinned (OpenSpec.ofChange numberRowsSpec)

/-- ITS FALSE NEIGHBOUR: 'it returns false'. Refute it at one input. -/
def numberRowsWrong : ChangeSpec := { name := "numberRows", fn := fun _ => fun
  | [d1, d2, d3, d4] => { results := [.lit (.bool false)], args := [d1, d2, d3, d4] }
  | _ => none }
def NumberRowsWrongFalsely : Prop := numberRowsRow.holds Try.pinned (OpenSpec.ofChange numberRowsWrong)

/-- 'bellwetherlaw20.NumberTurns': WHATEVER THE INPUT: true; the input reads as it did. -/
def numberTurnsSpec : ChangeSpec := { name := "numberTurns", fn := fun _ => fun
  | [d1, d2] => { results := [.lit (.bool true)], args := [d1, d2] }
  | _ => none }
def numberTurnsRow : OpenClaim := { program := "ytjfcedhjmmnofaa", sum := "c55ef5fafdba0060ef9e2629fea7ed757da3c6a202961b44d694326d1a2cb0e8", func := "bellwether/bellwetherlaw20.NumberTurns", spec := "numberTurns", unfollowed := true, recurses := true, apart := false }
def NumberTurnsSaid : Prop := numberTurnsRow.holds Try.pinned (OpenSpec.ofChange numberTurnsSpec)

/-- ITS FALSE NEIGHBOUR: 'it returns false'. Refute it at one input. -/
def numberTurnsWrong : ChangeSpec := { name := "numberTurns", fn := fun _ => fun
  | [d1, d2] => { results := [.lit (.bool false)], args := [d1, d2] }
  | _ => none }
def NumberTurnsWrongFalsely : Prop := numberTurnsRow.holds Try.pinned (OpenSpec.ofChange numberTurnsWrong)

/-- 'bellwetherlaw20.NumberOwn': WHATEVER THE INPUT: true; the input reads as it did. -/
def numberOwnSpec : ChangeSpec := { name := "numberOwn", fn := fun _ => fun
  | [d1, d2, d3, d4] => { results := [.lit (.bool true)], args := [d1, d2, d3, d4] }
  | _ => none }
def numberOwnRow : OpenClaim := { program := "ytjfcedhjmmnofaa", sum := "c55ef5fafdba0060ef9e2629fea7ed757da3c6a202961b44d694326d1a2cb0e8", func := "bellwether/bellwetherlaw20.NumberOwn", spec := "numberOwn", unfollowed := true, recurses := true, apart := false }
def NumberOwnSaid : Prop := numberOwnRow.holds Try.pinned (OpenSpec.ofChange numberOwnSpec)

/-- ITS FALSE NEIGHBOUR: 'it returns false'. Refute it at one input. -/
def numberOwnWrong : ChangeSpec := { name := "numberOwn", fn := fun _ => fun
  | [d1, d2, d3, d4] => { results := [.lit (.bool false)], args := [d1, d2, d3, d4] }
  | _ => none }
def NumberOwnWrongFalsely : Prop := numberOwnRow.holds Try.pinned (OpenSpec.ofChange numberOwnWrong)

/- THE SECOND FORM. 'bulk': how many values and letters a reading holds, each counted each time it is reached (what is shared counts as often as it is met; a slice's spare places count too). A statement '..UptoSaid' is the law's where the arguments, and the package variables that the reading takes, are together of bulk at most 1048576: NARROWER than '..Said'. Prove '..Said' where nothing that the law and all that it calls make is longer than what came in: it says more and counts as full. Else prove '..UptoSaid'. A law counts once. -/
mutual
def uptoBulk {H : Type} : DataW H → Nat
  | .lit (.string bytes) => bytes.length + 1
  | .lit _ => 1
  | .nil => 1
  | .ptr d => uptoBulk d + 1
  | .slice elems spare => uptoBulkAll elems + uptoBulkAll spare + 1
  | .agg parts => uptoBulkAll parts + 1
  | .iface _ d => uptoBulk d + 1
  | .map entries => uptoBulkEntries entries + 1
  | .held _ => 1
def uptoBulkAll {H : Type} : List (DataW H) → Nat
  | [] => 0
  | d :: r => uptoBulk d + uptoBulkAll r
def uptoBulkEntries {H : Type} : List (Lit × DataW H) → Nat
  | [] => 0
  | x :: r => uptoBulkEntry x + uptoBulkEntries r
def uptoBulkEntry {H : Type} : Lit × DataW H → Nat
  | (.string bytes, d) => bytes.length + uptoBulk d + 1
  | (_, d) => uptoBulk d + 1
 end
def uptoSmall : (H : Type) → List (DataW H) → Bool := fun _ ds => decide (uptoBulkAll ds ≤ 1048576)
def OpenSpec.upto (s : _root_.Go.ChangeSpec) : _root_.Go.OpenSpec := { _root_.Go.OpenSpec.ofChange s with cond := some uptoSmall }

/-- 'bellwetherlaw21.SchedSlots', WHERE WHAT IT READS IS OF BULK AT MOST 1048576: true; the input reads as it did. -/
def schedSlotsUptoRow : OpenClaim := { program := "ytjfcedhjmmnofaa", sum := "c55ef5fafdba0060ef9e2629fea7ed757da3c6a202961b44d694326d1a2cb0e8", func := "bellwether/bellwetherlaw21.SchedSlots", spec := "schedSlots", unfollowed := true, recurses := true, apart := false, narrowed := true }
def SchedSlotsUptoSaid : Prop := schedSlotsUptoRow.holds Try.pinned (OpenSpec.upto schedSlotsSpec)

/-- 'bellwetherlaw21.SchedOwned', WHERE WHAT IT READS IS OF BULK AT MOST 1048576: true; the input reads as it did. -/
def schedOwnedUptoRow : OpenClaim := { program := "ytjfcedhjmmnofaa", sum := "c55ef5fafdba0060ef9e2629fea7ed757da3c6a202961b44d694326d1a2cb0e8", func := "bellwether/bellwetherlaw21.SchedOwned", spec := "schedOwned", unfollowed := true, recurses := true, apart := false, narrowed := true }
def SchedOwnedUptoSaid : Prop := schedOwnedUptoRow.holds Try.pinned (OpenSpec.upto schedOwnedSpec)

/-- 'bellwetherlaw21.SchedOne', WHERE WHAT IT READS IS OF BULK AT MOST 1048576: true; the input reads as it did. -/
def schedOneUptoRow : OpenClaim := { program := "ytjfcedhjmmnofaa", sum := "c55ef5fafdba0060ef9e2629fea7ed757da3c6a202961b44d694326d1a2cb0e8", func := "bellwether/bellwetherlaw21.SchedOne", spec := "schedOne", unfollowed := true, recurses := true, apart := false, narrowed := true }
def SchedOneUptoSaid : Prop := schedOneUptoRow.holds Try.pinned (OpenSpec.upto schedOneSpec)

/-- 'bellwetherlaw21.SchedOnce', WHERE WHAT IT READS IS OF BULK AT MOST 1048576: true; the input reads as it did. -/
def schedOnceUptoRow : OpenClaim := { program := "ytjfcedhjmmnofaa", sum := "c55ef5fafdba0060ef9e2629fea7ed757da3c6a202961b44d694326d1a2cb0e8", func := "bellwether/bellwetherlaw21.SchedOnce", spec := "schedOnce", unfollowed := true, recurses := true, apart := false, narrowed := true }
def SchedOnceUptoSaid : Prop := schedOnceUptoRow.holds Try.pinned (OpenSpec.upto schedOnceSpec)

/-- 'bellwetherlaw04.BoundPlaces', WHERE WHAT IT READS IS OF BULK AT MOST 1048576: true; the input reads as it did. -/
def boundPlacesUptoRow : OpenClaim := { program := "ytjfcedhjmmnofaa", sum := "c55ef5fafdba0060ef9e2629fea7ed757da3c6a202961b44d694326d1a2cb0e8", func := "bellwether/bellwetherlaw04.BoundPlaces", spec := "boundPlaces", apart := false, narrowed := true }
def BoundPlacesUptoSaid : Prop := boundPlacesUptoRow.holds Try.pinned (OpenSpec.upto boundPlacesSpec)

/-- 'bellwetherlaw04.BoundRight', WHERE WHAT IT READS IS OF BULK AT MOST 1048576: true; the input reads as it did. -/
def boundRightUptoRow : OpenClaim := { program := "ytjfcedhjmmnofaa", sum := "c55ef5fafdba0060ef9e2629fea7ed757da3c6a202961b44d694326d1a2cb0e8", func := "bellwether/bellwetherlaw04.BoundRight", spec := "boundRight", apart := false, narrowed := true }
def BoundRightUptoSaid : Prop := boundRightUptoRow.holds Try.pinned (OpenSpec.upto boundRightSpec)

/-- 'bellwetherlaw04.BoundApart', WHERE WHAT IT READS IS OF BULK AT MOST 1048576: true; the input reads as it did. -/
def boundApartUptoRow : OpenClaim := { program := "ytjfcedhjmmnofaa", sum := "c55ef5fafdba0060ef9e2629fea7ed757da3c6a202961b44d694326d1a2cb0e8", func := "bellwether/bellwetherlaw04.BoundApart", spec := "boundApart", apart := false, narrowed := true }
def BoundApartUptoSaid : Prop := boundApartUptoRow.holds Try.pinned (OpenSpec.upto boundApartSpec)

/-- 'bellwetherlaw04.BoundClocks', WHERE WHAT IT READS IS OF BULK AT MOST 1048576: true; the input reads as it did. -/
def boundClocksUptoRow : OpenClaim := { program := "ytjfcedhjmmnofaa", sum := "c55ef5fafdba0060ef9e2629fea7ed757da3c6a202961b44d694326d1a2cb0e8", func := "bellwether/bellwetherlaw04.BoundClocks", spec := "boundClocks", apart := false, narrowed := true }
def BoundClocksUptoSaid : Prop := boundClocksUptoRow.holds Try.pinned (OpenSpec.upto boundClocksSpec)

/-- 'bellwetherlaw20.NumberNext', WHERE WHAT IT READS IS OF BULK AT MOST 1048576: true; the input reads as it did. -/
def numberNextUptoRow : OpenClaim := { program := "ytjfcedhjmmnofaa", sum := "c55ef5fafdba0060ef9e2629fea7ed757da3c6a202961b44d694326d1a2cb0e8", func := "bellwether/bellwetherlaw20.NumberNext", spec := "numberNext", unfollowed := true, recurses := true, apart := false, narrowed := true }
def NumberNextUptoSaid : Prop := numberNextUptoRow.holds Try.pinned (OpenSpec.upto numberNextSpec)

/-- 'bellwetherlaw20.NumberRows', WHERE WHAT IT READS IS OF BULK AT MOST 1048576: true; the input reads as it did. -/
def numberRowsUptoRow : OpenClaim := { program := "ytjfcedhjmmnofaa", sum := "c55ef5fafdba0060ef9e2629fea7ed757da3c6a202961b44d694326d1a2cb0e8", func := "bellwether/bellwetherlaw20.NumberRows", spec := "numberRows", unfollowed := true, recurses := true, apart := false, narrowed := true }
def NumberRowsUptoSaid : Prop := numberRowsUptoRow.holds Try.pinned (OpenSpec.upto numberRowsSpec)

/-- 'bellwetherlaw20.NumberTurns', WHERE WHAT IT READS IS OF BULK AT MOST 1048576: true; the input reads as it did. -/
def numberTurnsUptoRow : OpenClaim := { program := "ytjfcedhjmmnofaa", sum := "c55ef5fafdba0060ef9e2629fea7ed757da3c6a202961b44d694326d1a2cb0e8", func := "bellwether/bellwetherlaw20.NumberTurns", spec := "numberTurns", unfollowed := true, recurses := true, apart := false, narrowed := true }
def NumberTurnsUptoSaid : Prop := numberTurnsUptoRow.holds Try.pinned (OpenSpec.upto numberTurnsSpec)

/-- 'bellwetherlaw20.NumberOwn', WHERE WHAT IT READS IS OF BULK AT MOST 1048576: true; the input reads as it did. -/
def numberOwnUptoRow : OpenClaim := { program := "ytjfcedhjmmnofaa", sum := "c55ef5fafdba0060ef9e2629fea7ed757da3c6a202961b44d694326d1a2cb0e8", func := "bellwether/bellwetherlaw20.NumberOwn", spec := "numberOwn", unfollowed := true, recurses := true, apart := false, narrowed := true }
def NumberOwnUptoSaid : Prop := numberOwnUptoRow.holds Try.pinned (OpenSpec.upto numberOwnSpec)

end Rows
end Go.Proofs.Ytjfcedhjmmnofaa
