/-
  No cell of these rows narrows 'for every input' (looked for: loops, veiled, ifaces, maps, wideKeys, modest, calm, conditions, laid).
  DERIVED. THE GIVEN ROWS OF THIS SEAT. 4 by the template 'for every input the law returns true; each argument reads behind the call as it read before'; 0 by the template 'total and deterministic' (their statements: YtdnccjlfongdeaaTotals.lean).
  GIVEN WITH THE SEED: the statements are not yours to turn. If you find one false, say at which input.
  Laid BY PROGRAM, IN A SANDBOX (cutbox-rows.mjs): the forced cells as the released guide's own fill.sh prints them over the translation 566a7e30a68a5880… (all of the seat's roots in one cut). By AI agents, Wed Nov 11 2026. No macro, syntax, notation, axiom, sorry.
-/
import Derived.Test.YtdnccjlfongdeaaChecked
import GoSem.Claim
import GoSem.ClaimJoined
import GoSem.ClaimMapViews
import Derived.JoinedTies
import Derived.KernelRfl
namespace Go.Proofs.Ytdnccjlfongdeaa
/- THE CELL 'sum', in the pinned program and in every row, IS THE sha256 OF THE DUMP (.gsa) THAT YtdnccjlfongdeaaProg.lean LOADS. Nothing in Lean hashes anything: it is a label: what it is worth is what the hold of that sum in a sandbox is worth. -/
noncomputable def Try.pinned : Pinned := { name := "ytdnccjlfongdeaa", sum := "566a7e30a68a58802d052e497213c063043e12a74f0b8a99826cd69d8a6f54a1", checked := Try.checked }
namespace Rows
def none {H : Type} : Left H := { results := [], args := [] }

/-- 'bellwetherlaw38.RoundPlays': WHATEVER THE INPUT: true; the input reads as it did. -/
def roundPlaysSpec : ChangeSpec := { name := "roundPlays", fn := fun _ => fun
  | [d1, d2, d3, d4] => { results := [.lit (.bool true)], args := [d1, d2, d3, d4] }
  | _ => none }
def roundPlaysRow : OpenClaim := { program := "ytdnccjlfongdeaa", sum := "566a7e30a68a58802d052e497213c063043e12a74f0b8a99826cd69d8a6f54a1", func := "bellwether/bellwetherlaw38.RoundPlays", spec := "roundPlays", unfollowed := true, recurses := true, apart := false }
def RoundPlaysSaid : Prop := roundPlaysRow.holds Try.pinned (OpenSpec.ofChange roundPlaysSpec)

/-- ITS FALSE NEIGHBOUR: 'it returns false'. Refute it at one input. -/
def roundPlaysWrong : ChangeSpec := { name := "roundPlays", fn := fun _ => fun
  | [d1, d2, d3, d4] => { results := [.lit (.bool false)], args := [d1, d2, d3, d4] }
  | _ => none }
def RoundPlaysWrongFalsely : Prop := roundPlaysRow.holds Try.pinned (OpenSpec.ofChange roundPlaysWrong)

/-- 'bellwetherlaw38.RoundFits': WHATEVER THE INPUT: true; the input reads as it did. -/
def roundFitsSpec : ChangeSpec := { name := "roundFits", fn := fun _ => fun
  | [d1, d2, d3] => { results := [.lit (.bool true)], args := [d1, d2, d3] }
  | _ => none }
def roundFitsRow : OpenClaim := { program := "ytdnccjlfongdeaa", sum := "566a7e30a68a58802d052e497213c063043e12a74f0b8a99826cd69d8a6f54a1", func := "bellwether/bellwetherlaw38.RoundFits", spec := "roundFits", unfollowed := true, recurses := true, apart := false }
def RoundFitsSaid : Prop := roundFitsRow.holds Try.pinned (OpenSpec.ofChange roundFitsSpec)

/-- ITS FALSE NEIGHBOUR: 'it returns false'. Refute it at one input. -/
def roundFitsWrong : ChangeSpec := { name := "roundFits", fn := fun _ => fun
  | [d1, d2, d3] => { results := [.lit (.bool false)], args := [d1, d2, d3] }
  | _ => none }
def RoundFitsWrongFalsely : Prop := roundFitsRow.holds Try.pinned (OpenSpec.ofChange roundFitsWrong)

/-- 'bellwetherlaw38.RoundMachine': WHATEVER THE INPUT: true; the input reads as it did. -/
def roundMachineSpec : ChangeSpec := { name := "roundMachine", fn := fun _ => fun
  | [d1, d2, d3] => { results := [.lit (.bool true)], args := [d1, d2, d3] }
  | _ => none }
def roundMachineRow : OpenClaim := { program := "ytdnccjlfongdeaa", sum := "566a7e30a68a58802d052e497213c063043e12a74f0b8a99826cd69d8a6f54a1", func := "bellwether/bellwetherlaw38.RoundMachine", spec := "roundMachine", unfollowed := true, recurses := true, apart := false }
def RoundMachineSaid : Prop := roundMachineRow.holds Try.pinned (OpenSpec.ofChange roundMachineSpec)

/-- ITS FALSE NEIGHBOUR: 'it returns false'. Refute it at one input. -/
def roundMachineWrong : ChangeSpec := { name := "roundMachine", fn := fun _ => fun
  | [d1, d2, d3] => { results := [.lit (.bool false)], args := [d1, d2, d3] }
  | _ => none }
def RoundMachineWrongFalsely : Prop := roundMachineRow.holds Try.pinned (OpenSpec.ofChange roundMachineWrong)

/-- 'bellwetherlaw38.RoundOnly': WHATEVER THE INPUT: true; the input reads as it did. -/
def roundOnlySpec : ChangeSpec := { name := "roundOnly", fn := fun _ => fun
  | [d1, d2, d3] => { results := [.lit (.bool true)], args := [d1, d2, d3] }
  | _ => none }
def roundOnlyRow : OpenClaim := { program := "ytdnccjlfongdeaa", sum := "566a7e30a68a58802d052e497213c063043e12a74f0b8a99826cd69d8a6f54a1", func := "bellwether/bellwetherlaw38.RoundOnly", spec := "roundOnly", unfollowed := true, recurses := true, apart := false }
def RoundOnlySaid : Prop := roundOnlyRow.holds Try.pinned (OpenSpec.ofChange roundOnlySpec)

/-- ITS FALSE NEIGHBOUR: 'it returns false'. Refute it at one input. -/
def roundOnlyWrong : ChangeSpec := { name := "roundOnly", fn := fun _ => fun
  | [d1, d2, d3] => { results := [.lit (.bool false)], args := [d1, d2, d3] }
  | _ => none }
def RoundOnlyWrongFalsely : Prop := roundOnlyRow.holds Try.pinned (OpenSpec.ofChange roundOnlyWrong)

/- THE SECOND FORM. 'bulk': how many values and letters a reading holds, each counted each time it is reached (what is shared counts as often as it is met; a slice's spare places count too). A statement '..UptoSaid' is the law's where the arguments, and the package variables that the reading takes, are together of bulk at most 1048576: NARROWER than '..Said'. Prove '..Said' where nothing that the law and all that it calls make is longer than what came in: it says more and counts as full. Else prove '..UptoSaid'. A law counts once. -/
mutual
def uptoBulk {H : Type} : DataW H → Nat
  | .lit (.string bytes) => bytes.length + 1
  | .lit _ => 1
  | .nil => 1
  | .ptr d => uptoBulk d + 1
  | .slice elems spare => uptoBulkAll elems + uptoBulkAll spare + 1
  | .agg parts => uptoBulkAll parts + 1
  | .iface _ d => uptoBulk d + 1
  | .map entries => uptoBulkEntries entries + 1
  | .held _ => 1
def uptoBulkAll {H : Type} : List (DataW H) → Nat
  | [] => 0
  | d :: r => uptoBulk d + uptoBulkAll r
def uptoBulkEntries {H : Type} : List (Lit × DataW H) → Nat
  | [] => 0
  | x :: r => uptoBulkEntry x + uptoBulkEntries r
def uptoBulkEntry {H : Type} : Lit × DataW H → Nat
  | (.string bytes, d) => bytes.length + uptoBulk d + 1
  | (_, d) => uptoBulk d + 1
 end
def uptoSmall : (H : Type) → List (DataW H) → Bool := fun _ ds => decide (uptoBulkAll ds ≤ 1048576)
def OpenSpec.upto (s : _root_.Go.ChangeSpec) : _root_.Go.OpenSpec := { _root_.Go.OpenSpec.ofChange s with cond := some uptoSmall }

/-- 'bellwetherlaw38.RoundPlays', WHERE WHAT IT READS IS OF BULK AT MOST 1048576: true; the input reads as it did. -/
def roundPlaysUptoRow : OpenClaim := { program := "ytdnccjlfongdeaa", sum := "566a7e30a68a58802d052e497213c063043e12a74f0b8a99826cd69d8a6f54a1", func := "bellwether/bellwetherlaw38.RoundPlays", spec := "roundPlays", unfollowed := true, recurses := true, apart := false, narrowed := true }
def RoundPlaysUptoSaid : Prop := roundPlaysUptoRow.holds Try.pinned (OpenSpec.upto roundPlaysSpec)

/-- 'bellwetherlaw38.RoundFits', WHERE WHAT IT READS IS OF BULK AT MOST 1048576: true; the input reads as it did. -/
def roundFitsUptoRow : OpenClaim := { program := "ytdnccjlfongdeaa", sum := "566a7e30a68a58802d052e497213c063043e12a74f0b8a99826cd69d8a6f54a1", func := "bellwether/bellwetherlaw38.RoundFits", spec := "roundFits", unfollowed := true, recurses := true, apart := false, narrowed := true }
def RoundFitsUptoSaid : Prop := roundFitsUptoRow.holds Try.pinned (OpenSpec.upto roundFitsSpec)

/-- 'bellwetherlaw38.RoundMachine', WHERE WHAT IT READS IS OF BULK AT MOST 1048576: true; the input reads as it did. -/
def roundMachineUptoRow : OpenClaim := { program := "ytdnccjlfongdeaa", sum := "566a7e30a68a58802d052e497213c063043e12a74f0b8a99826cd69d8a6f54a1", func := "bellwether/bellwetherlaw38.RoundMachine", spec := "roundMachine", unfollowed := true, recurses := true, apart := false, narrowed := true }
def RoundMachineUptoSaid : Prop := roundMachineUptoRow.holds Try.pinned (OpenSpec.upto roundMachineSpec)

/-- 'bellwetherlaw38.RoundOnly', WHERE WHAT IT READS IS OF BULK AT MOST 1048576: true; the input reads as it did. -/
def roundOnlyUptoRow : OpenClaim := { program := "ytdnccjlfongdeaa", sum := "566a7e30a68a58802d052e497213c063043e12a74f0b8a99826cd69d8a6f54a1", func := "bellwether/bellwetherlaw38.RoundOnly", spec := "roundOnly", unfollowed := true, recurses := true, apart := false, narrowed := true }
def RoundOnlyUptoSaid : Prop := roundOnlyUptoRow.holds Try.pinned (OpenSpec.upto roundOnlySpec)

end Rows
end Go.Proofs.Ytdnccjlfongdeaa
