/-
  No cell of these rows narrows 'for every input' (looked for: loops, veiled, ifaces, maps, wideKeys, modest, calm, conditions, laid).
  DERIVED. THE GIVEN ROWS OF THIS SEAT. 3 by the template 'for every input the law returns true; each argument reads behind the call as it read before'; 0 by the template 'total and deterministic' (their statements: YthmnlopmocjpaaaTotals.lean).
  GIVEN WITH THE SEED: the statements are not yours to turn. If you find one false, say at which input.
  Laid BY PROGRAM, IN A SANDBOX (cutbox-rows.mjs): the forced cells as the released guide's own fill.sh prints them over the translation 771e7752fd1e1a80… (all of the seat's roots in one cut). By AI agents, Wed Nov 11 2026. No macro, syntax, notation, axiom, sorry.
-/
import Derived.Test.YthmnlopmocjpaaaChecked
import GoSem.Claim
import GoSem.ClaimJoined
import GoSem.ClaimMapViews
import Derived.JoinedTies
import Derived.KernelRfl
namespace Go.Proofs.Ythmnlopmocjpaaa
/- THE CELL 'sum', in the pinned program and in every row, IS THE sha256 OF THE DUMP (.gsa) THAT YthmnlopmocjpaaaProg.lean LOADS. Nothing in Lean hashes anything: it is a label: what it is worth is what the hold of that sum in a sandbox is worth. -/
noncomputable def Try.pinned : Pinned := { name := "ythmnlopmocjpaaa", sum := "771e7752fd1e1a80fd268d9a61e7784fdf1cb6cfc72480bf7244682edb0badfb", checked := Try.checked }
namespace Rows
def none {H : Type} : Left H := { results := [], args := [] }

/-- 'bellwetherlaw27.StatusTells': WHATEVER THE INPUT: true; the input reads as it did. -/
def statusTellsSpec : ChangeSpec := { name := "statusTells", fn := fun _ => fun
  | [d1, d2, d3, d4] => { results := [.lit (.bool true)], args := [d1, d2, d3, d4] }
  | _ => none }
def statusTellsRow : OpenClaim := { program := "ythmnlopmocjpaaa", sum := "771e7752fd1e1a80fd268d9a61e7784fdf1cb6cfc72480bf7244682edb0badfb", func := "bellwether/bellwetherlaw27.StatusTells", spec := "statusTells", unfollowed := true, recurses := true, apart := false }
def StatusTellsSaid : Prop := statusTellsRow.holds Try.pinned (OpenSpec.ofChange statusTellsSpec)

/-- ITS FALSE NEIGHBOUR: 'it returns false'. Refute it at one input. -/
def statusTellsWrong : ChangeSpec := { name := "statusTells", fn := fun _ => fun
  | [d1, d2, d3, d4] => { results := [.lit (.bool false)], args := [d1, d2, d3, d4] }
  | _ => none }
def StatusTellsWrongFalsely : Prop := statusTellsRow.holds Try.pinned (OpenSpec.ofChange statusTellsWrong)

/-- 'bellwetherlaw27.StatusMute': WHATEVER THE INPUT: true; the input reads as it did. -/
def statusMuteSpec : ChangeSpec := { name := "statusMute", fn := fun _ => fun
  | [d1, d2] => { results := [.lit (.bool true)], args := [d1, d2] }
  | _ => none }
def statusMuteRow : OpenClaim := { program := "ythmnlopmocjpaaa", sum := "771e7752fd1e1a80fd268d9a61e7784fdf1cb6cfc72480bf7244682edb0badfb", func := "bellwether/bellwetherlaw27.StatusMute", spec := "statusMute", unfollowed := true, recurses := true, apart := false }
def StatusMuteSaid : Prop := statusMuteRow.holds Try.pinned (OpenSpec.ofChange statusMuteSpec)

/-- ITS FALSE NEIGHBOUR: 'it returns false'. Refute it at one input. -/
def statusMuteWrong : ChangeSpec := { name := "statusMute", fn := fun _ => fun
  | [d1, d2] => { results := [.lit (.bool false)], args := [d1, d2] }
  | _ => none }
def StatusMuteWrongFalsely : Prop := statusMuteRow.holds Try.pinned (OpenSpec.ofChange statusMuteWrong)

/-- 'bellwetherlaw27.StatusAgrees': WHATEVER THE INPUT: true; the input reads as it did. -/
def statusAgreesSpec : ChangeSpec := { name := "statusAgrees", fn := fun _ => fun
  | [d1, d2, d3, d4] => { results := [.lit (.bool true)], args := [d1, d2, d3, d4] }
  | _ => none }
def statusAgreesRow : OpenClaim := { program := "ythmnlopmocjpaaa", sum := "771e7752fd1e1a80fd268d9a61e7784fdf1cb6cfc72480bf7244682edb0badfb", func := "bellwether/bellwetherlaw27.StatusAgrees", spec := "statusAgrees", unfollowed := true, recurses := true, apart := false }
def StatusAgreesSaid : Prop := statusAgreesRow.holds Try.pinned (OpenSpec.ofChange statusAgreesSpec)

/-- ITS FALSE NEIGHBOUR: 'it returns false'. Refute it at one input. -/
def statusAgreesWrong : ChangeSpec := { name := "statusAgrees", fn := fun _ => fun
  | [d1, d2, d3, d4] => { results := [.lit (.bool false)], args := [d1, d2, d3, d4] }
  | _ => none }
def StatusAgreesWrongFalsely : Prop := statusAgreesRow.holds Try.pinned (OpenSpec.ofChange statusAgreesWrong)

/- THE SECOND FORM. 'bulk': how many values and letters a reading holds, each counted each time it is reached (what is shared counts as often as it is met; a slice's spare places count too). A statement '..UptoSaid' is the law's where the arguments, and the package variables that the reading takes, are together of bulk at most 1048576: NARROWER than '..Said'. Prove '..Said' where nothing that the law and all that it calls make is longer than what came in: it says more and counts as full. Else prove '..UptoSaid'. A law counts once. -/
mutual
def uptoBulk {H : Type} : DataW H → Nat
  | .lit (.string bytes) => bytes.length + 1
  | .lit _ => 1
  | .nil => 1
  | .ptr d => uptoBulk d + 1
  | .slice elems spare => uptoBulkAll elems + uptoBulkAll spare + 1
  | .agg parts => uptoBulkAll parts + 1
  | .iface _ d => uptoBulk d + 1
  | .map entries => uptoBulkEntries entries + 1
  | .held _ => 1
def uptoBulkAll {H : Type} : List (DataW H) → Nat
  | [] => 0
  | d :: r => uptoBulk d + uptoBulkAll r
def uptoBulkEntries {H : Type} : List (Lit × DataW H) → Nat
  | [] => 0
  | x :: r => uptoBulkEntry x + uptoBulkEntries r
def uptoBulkEntry {H : Type} : Lit × DataW H → Nat
  | (.string bytes, d) => bytes.length + uptoBulk d + 1
  | (_, d) => uptoBulk d + 1
 end
def uptoSmall : (H : Type) → List (DataW H) → Bool := fun _ ds => decide (uptoBulkAll ds ≤ 1048576)
def OpenSpec.upto (s : _root_.Go.ChangeSpec) : _root_.Go.OpenSpec := { _root_.Go.OpenSpec.ofChange s with cond := some uptoSmall }

/-- 'bellwetherlaw27.StatusTells', WHERE WHAT IT READS IS OF BULK AT MOST 1048576: true; the input reads as it did. -/
def statusTellsUptoRow : OpenClaim := { program := "ythmnlopmocjpaaa", sum := "771e7752fd1e1a80fd268d9a61e7784fdf1cb6cfc72480bf7244682edb0badfb", func := "bellwether/bellwetherlaw27.StatusTells", spec := "statusTells", unfollowed := true, recurses := true, apart := false, narrowed := true }
def StatusTellsUptoSaid : Prop := statusTellsUptoRow.holds Try.pinned (OpenSpec.upto statusTellsSpec)

/-- 'bellwetherlaw27.StatusMute', WHERE WHAT IT READS IS OF BULK AT MOST 1048576: true; the input reads as it did. -/
def statusMuteUptoRow : OpenClaim := { program := "ythmnlopmocjpaaa", sum := "771e7752fd1e1a80fd268d9a61e7784fdf1cb6cfc72480bf7244682edb0badfb", func := "bellwether/bellwetherlaw27.StatusMute", spec := "statusMute", unfollowed := true, recurses := true, apart := false, narrowed := true }
def StatusMuteUptoSaid : Prop := statusMuteUptoRow.holds Try.pinned (OpenSpec.upto statusMuteSpec)

/-- 'bellwetherlaw27.StatusAgrees', WHERE WHAT IT READS IS OF BULK AT MOST 1048576: true; the input reads as it did. -/
def statusAgreesUptoRow : OpenClaim := { program := "ythmnlopmocjpaaa", sum := "771e7752fd1e1a80fd268d9a61e7784fdf1cb6cfc72480bf7244682edb0badfb", func := "bellwether/bellwetherlaw27.StatusAgrees", spec := "statusAgrees", unfollowed := true, recurses := true, apart := false, narrowed := true }
def StatusAgreesUptoSaid : Prop := statusAgreesUptoRow.holds Try.pinned (OpenSpec.upto statusAgreesSpec)

end Rows
end Go.Proofs.Ythmnlopmocjpaaa
