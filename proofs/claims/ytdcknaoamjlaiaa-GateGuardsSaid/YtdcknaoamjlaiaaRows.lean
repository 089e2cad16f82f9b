/-
  No cell of these rows narrows 'for every input' (looked for: loops, veiled, ifaces, maps, wideKeys, modest, calm, conditions, laid).
  DERIVED. THE GIVEN ROWS OF THIS SEAT. 15 by the template 'for every input the law returns true; each argument reads behind the call as it read before'; 0 by the template 'total and deterministic' (their statements: YtdcknaoamjlaiaaTotals.lean).
  GIVEN WITH THE SEED: the statements are not yours to turn. If you find one false, say at which input.
  Laid BY PROGRAM, IN A SANDBOX (cutbox-rows.mjs): the forced cells as the released guide's own fill.sh prints them over the translation eb3b14b0891c2a30… (all of the seat's roots in one cut). By AI agents, Wed Nov 11 2026. No macro, syntax, notation, axiom, sorry.
-/
import Derived.Test.YtdcknaoamjlaiaaChecked
import GoSem.Claim
import GoSem.ClaimJoined
import GoSem.ClaimMapViews
import Derived.JoinedTies
import Derived.KernelRfl
namespace Go.Proofs.Ytdcknaoamjlaiaa
/- THE CELL 'sum', in the pinned program and in every row, IS THE sha256 OF THE DUMP (.gsa) THAT YtdcknaoamjlaiaaProg.lean LOADS. Nothing in Lean hashes anything: it is a label: what it is worth is what the hold of that sum in a sandbox is worth. -/
noncomputable def Try.pinned : Pinned := { name := "ytdcknaoamjlaiaa", sum := "eb3b14b0891c2a3068a01c1c40f2ffd887a6f48e96083c8c79c30df618e4ebaf", checked := Try.checked }
namespace Rows
def none {H : Type} : Left H := { results := [], args := [] }

/-- 'bellwetherlaw25.RosterMarks': WHATEVER THE INPUT: true; the input reads as it did. -/
def rosterMarksSpec : ChangeSpec := { name := "rosterMarks", fn := fun _ => fun
  | [d1, d2, d3, d4] => { results := [.lit (.bool true)], args := [d1, d2, d3, d4] }
  | _ => none }
def rosterMarksRow : OpenClaim := { program := "ytdcknaoamjlaiaa", sum := "eb3b14b0891c2a3068a01c1c40f2ffd887a6f48e96083c8c79c30df618e4ebaf", func := "bellwether/bellwetherlaw25.RosterMarks", spec := "rosterMarks", unfollowed := true, recurses := true, apart := false }
def RosterMarksSaid : Prop := rosterMarksRow.holds Try.pinned (OpenSpec.ofChange rosterMarksSpec)

/-- ITS FALSE NEIGHBOUR: 'it returns false'. Refute it at one input. -/
def rosterMarksWrong : ChangeSpec := { name := "rosterMarks", fn := fun _ => fun
  | [d1, d2, d3, d4] => { results := [.lit (.bool false)], args := [d1, d2, d3, d4] }
  | _ => none }
def RosterMarksWrongFalsely : Prop := rosterMarksRow.holds Try.pinned (OpenSpec.ofChange rosterMarksWrong)

/-- 'bellwetherlaw25.RosterAsks': WHATEVER THE INPUT: true; the input reads as it did. -/
def rosterAsksSpec : ChangeSpec := { name := "rosterAsks", fn := fun _ => fun
  | [d1, d2, d3] => { results := [.lit (.bool true)], args := [d1, d2, d3] }
  | _ => none }
def rosterAsksRow : OpenClaim := { program := "ytdcknaoamjlaiaa", sum := "eb3b14b0891c2a3068a01c1c40f2ffd887a6f48e96083c8c79c30df618e4ebaf", func := "bellwether/bellwetherlaw25.RosterAsks", spec := "rosterAsks", unfollowed := true, recurses := true, apart := false }
def RosterAsksSaid : Prop := rosterAsksRow.holds Try.pinned (OpenSpec.ofChange rosterAsksSpec)

/-- ITS FALSE NEIGHBOUR: 'it returns false'. Refute it at one input. -/
def rosterAsksWrong : ChangeSpec := { name := "rosterAsks", fn := fun _ => fun
  | [d1, d2, d3] => { results := [.lit (.bool false)], args := [d1, d2, d3] }
  | _ => none }
def RosterAsksWrongFalsely : Prop := rosterAsksRow.holds Try.pinned (OpenSpec.ofChange rosterAsksWrong)

/-- 'bellwetherlaw25.RosterAll': WHATEVER THE INPUT: true; the input reads as it did. -/
def rosterAllSpec : ChangeSpec := { name := "rosterAll", fn := fun _ => fun
  | [d1, d2] => { results := [.lit (.bool true)], args := [d1, d2] }
  | _ => none }
def rosterAllRow : OpenClaim := { program := "ytdcknaoamjlaiaa", sum := "eb3b14b0891c2a3068a01c1c40f2ffd887a6f48e96083c8c79c30df618e4ebaf", func := "bellwether/bellwetherlaw25.RosterAll", spec := "rosterAll", unfollowed := true, recurses := true, apart := false }
def RosterAllSaid : Prop := rosterAllRow.holds Try.pinned (OpenSpec.ofChange rosterAllSpec)

/-- ITS FALSE NEIGHBOUR: 'it returns false'. Refute it at one input. -/
def rosterAllWrong : ChangeSpec := { name := "rosterAll", fn := fun _ => fun
  | [d1, d2] => { results := [.lit (.bool false)], args := [d1, d2] }
  | _ => none }
def RosterAllWrongFalsely : Prop := rosterAllRow.holds Try.pinned (OpenSpec.ofChange rosterAllWrong)

/-- 'bellwetherlaw25.RosterJoins': WHATEVER THE INPUT: true; the input reads as it did. -/
def rosterJoinsSpec : ChangeSpec := { name := "rosterJoins", fn := fun _ => fun
  | [d1, d2, d3, d4] => { results := [.lit (.bool true)], args := [d1, d2, d3, d4] }
  | _ => none }
def rosterJoinsRow : OpenClaim := { program := "ytdcknaoamjlaiaa", sum := "eb3b14b0891c2a3068a01c1c40f2ffd887a6f48e96083c8c79c30df618e4ebaf", func := "bellwether/bellwetherlaw25.RosterJoins", spec := "rosterJoins", unfollowed := true, recurses := true, apart := false }
def RosterJoinsSaid : Prop := rosterJoinsRow.holds Try.pinned (OpenSpec.ofChange rosterJoinsSpec)

/-- ITS FALSE NEIGHBOUR: 'it returns false'. Refute it at one input. -/
def rosterJoinsWrong : ChangeSpec := { name := "rosterJoins", fn := fun _ => fun
  | [d1, d2, d3, d4] => { results := [.lit (.bool false)], args := [d1, d2, d3, d4] }
  | _ => none }
def RosterJoinsWrongFalsely : Prop := rosterJoinsRow.holds Try.pinned (OpenSpec.ofChange rosterJoinsWrong)

/-- 'bellwetherlaw27.StatusTells': WHATEVER THE INPUT: true; the input reads as it did. -/
def statusTellsSpec : ChangeSpec := { name := "statusTells", fn := fun _ => fun
  | [d1, d2, d3, d4] => { results := [.lit (.bool true)], args := [d1, d2, d3, d4] }
  | _ => none }
def statusTellsRow : OpenClaim := { program := "ytdcknaoamjlaiaa", sum := "eb3b14b0891c2a3068a01c1c40f2ffd887a6f48e96083c8c79c30df618e4ebaf", func := "bellwether/bellwetherlaw27.StatusTells", spec := "statusTells", unfollowed := true, recurses := true, apart := false }
def StatusTellsSaid : Prop := statusTellsRow.holds Try.pinned (OpenSpec.ofChange statusTellsSpec)

/-- ITS FALSE NEIGHBOUR: 'it returns false'. Refute it at one input. -/
def statusTellsWrong : ChangeSpec := { name := "statusTells", fn := fun _ => fun
  | [d1, d2, d3, d4] => { results := [.lit (.bool false)], args := [d1, d2, d3, d4] }
  | _ => none }
def StatusTellsWrongFalsely : Prop := statusTellsRow.holds Try.pinned (OpenSpec.ofChange statusTellsWrong)

/-- 'bellwetherlaw27.StatusMute': WHATEVER THE INPUT: true; the input reads as it did. -/
def statusMuteSpec : ChangeSpec := { name := "statusMute", fn := fun _ => fun
  | [d1, d2] => { results := [.lit (.bool true)], args := [d1, d2] }
  | _ => none }
def statusMuteRow : OpenClaim := { program := "ytdcknaoamjlaiaa", sum := "eb3b14b0891c2a3068a01c1c40f2ffd887a6f48e96083c8c79c30df618e4ebaf", func := "bellwether/bellwetherlaw27.StatusMute", spec := "statusMute", unfollowed := true, recurses := true, apart := false }
def StatusMuteSaid : Prop := statusMuteRow.holds Try.pinned (OpenSpec.ofChange statusMuteSpec)

/-- ITS FALSE NEIGHBOUR: 'it returns false'. Refute it at one input. -/
def statusMuteWrong : ChangeSpec := { name := "statusMute", fn := fun _ => fun
  | [d1, d2] => { results := [.lit (.bool false)], args := [d1, d2] }
  | _ => none }
def StatusMuteWrongFalsely : Prop := statusMuteRow.holds Try.pinned (OpenSpec.ofChange statusMuteWrong)

/-- 'bellwetherlaw27.StatusAgrees': WHATEVER THE INPUT: true; the input reads as it did. -/
def statusAgreesSpec : ChangeSpec := { name := "statusAgrees", fn := fun _ => fun
  | [d1, d2, d3, d4] => { results := [.lit (.bool true)], args := [d1, d2, d3, d4] }
  | _ => none }
def statusAgreesRow : OpenClaim := { program := "ytdcknaoamjlaiaa", sum := "eb3b14b0891c2a3068a01c1c40f2ffd887a6f48e96083c8c79c30df618e4ebaf", func := "bellwether/bellwetherlaw27.StatusAgrees", spec := "statusAgrees", unfollowed := true, recurses := true, apart := false }
def StatusAgreesSaid : Prop := statusAgreesRow.holds Try.pinned (OpenSpec.ofChange statusAgreesSpec)

/-- ITS FALSE NEIGHBOUR: 'it returns false'. Refute it at one input. -/
def statusAgreesWrong : ChangeSpec := { name := "statusAgrees", fn := fun _ => fun
  | [d1, d2, d3, d4] => { results := [.lit (.bool false)], args := [d1, d2, d3, d4] }
  | _ => none }
def StatusAgreesWrongFalsely : Prop := statusAgreesRow.holds Try.pinned (OpenSpec.ofChange statusAgreesWrong)

/-- 'bellwetherlaw23.GateOpens': WHATEVER THE INPUT: true; the input reads as it did. -/
def gateOpensSpec : ChangeSpec := { name := "gateOpens", fn := fun _ => fun
  | [d1, d2, d3, d4] => { results := [.lit (.bool true)], args := [d1, d2, d3, d4] }
  | _ => none }
def gateOpensRow : OpenClaim := { program := "ytdcknaoamjlaiaa", sum := "eb3b14b0891c2a3068a01c1c40f2ffd887a6f48e96083c8c79c30df618e4ebaf", func := "bellwether/bellwetherlaw23.GateOpens", spec := "gateOpens", unfollowed := true, recurses := true, apart := false }
def GateOpensSaid : Prop := gateOpensRow.holds Try.pinned (OpenSpec.ofChange gateOpensSpec)

/-- ITS FALSE NEIGHBOUR: 'it returns false'. Refute it at one input. -/
def gateOpensWrong : ChangeSpec := { name := "gateOpens", fn := fun _ => fun
  | [d1, d2, d3, d4] => { results := [.lit (.bool false)], args := [d1, d2, d3, d4] }
  | _ => none }
def GateOpensWrongFalsely : Prop := gateOpensRow.holds Try.pinned (OpenSpec.ofChange gateOpensWrong)

/-- 'bellwetherlaw22.SlotPlaces': WHATEVER THE INPUT: true; the input reads as it did. -/
def slotPlacesSpec : ChangeSpec := { name := "slotPlaces", fn := fun _ => fun
  | [d1, d2, d3, d4] => { results := [.lit (.bool true)], args := [d1, d2, d3, d4] }
  | _ => none }
def slotPlacesRow : OpenClaim := { program := "ytdcknaoamjlaiaa", sum := "eb3b14b0891c2a3068a01c1c40f2ffd887a6f48e96083c8c79c30df618e4ebaf", func := "bellwether/bellwetherlaw22.SlotPlaces", spec := "slotPlaces", unfollowed := true, recurses := true, apart := false }
def SlotPlacesSaid : Prop := slotPlacesRow.holds Try.pinned (OpenSpec.ofChange slotPlacesSpec)

/-- ITS FALSE NEIGHBOUR: 'it returns false'. Refute it at one input. -/
def slotPlacesWrong : ChangeSpec := { name := "slotPlaces", fn := fun _ => fun
  | [d1, d2, d3, d4] => { results := [.lit (.bool false)], args := [d1, d2, d3, d4] }
  | _ => none }
def SlotPlacesWrongFalsely : Prop := slotPlacesRow.holds Try.pinned (OpenSpec.ofChange slotPlacesWrong)

/-- 'bellwetherlaw22.SlotWindows': WHATEVER THE INPUT: true; the input reads as it did. -/
def slotWindowsSpec : ChangeSpec := { name := "slotWindows", fn := fun _ => fun
  | [d1, d2, d3, d4] => { results := [.lit (.bool true)], args := [d1, d2, d3, d4] }
  | _ => none }
def slotWindowsRow : OpenClaim := { program := "ytdcknaoamjlaiaa", sum := "eb3b14b0891c2a3068a01c1c40f2ffd887a6f48e96083c8c79c30df618e4ebaf", func := "bellwether/bellwetherlaw22.SlotWindows", spec := "slotWindows", unfollowed := true, recurses := true, apart := false }
def SlotWindowsSaid : Prop := slotWindowsRow.holds Try.pinned (OpenSpec.ofChange slotWindowsSpec)

/-- ITS FALSE NEIGHBOUR: 'it returns false'. Refute it at one input. -/
def slotWindowsWrong : ChangeSpec := { name := "slotWindows", fn := fun _ => fun
  | [d1, d2, d3, d4] => { results := [.lit (.bool false)], args := [d1, d2, d3, d4] }
  | _ => none }
def SlotWindowsWrongFalsely : Prop := slotWindowsRow.holds Try.pinned (OpenSpec.ofChange slotWindowsWrong)

/-- 'bellwetherlaw22.SlotAgrees': WHATEVER THE INPUT: true; the input reads as it did. -/
def slotAgreesSpec : ChangeSpec := { name := "slotAgrees", fn := fun _ => fun
  | [d1, d2, d3, d4] => { results := [.lit (.bool true)], args := [d1, d2, d3, d4] }
  | _ => none }
def slotAgreesRow : OpenClaim := { program := "ytdcknaoamjlaiaa", sum := "eb3b14b0891c2a3068a01c1c40f2ffd887a6f48e96083c8c79c30df618e4ebaf", func := "bellwether/bellwetherlaw22.SlotAgrees", spec := "slotAgrees", unfollowed := true, recurses := true, apart := false }
def SlotAgreesSaid : Prop := slotAgreesRow.holds Try.pinned (OpenSpec.ofChange slotAgreesSpec)

/-- ITS FALSE NEIGHBOUR: 'it returns false'. Refute it at one input. -/
def slotAgreesWrong : ChangeSpec := { name := "slotAgrees", fn := fun _ => fun
  | [d1, d2, d3, d4] => { results := [.lit (.bool false)], args := [d1, d2, d3, d4] }
  | _ => none }
def SlotAgreesWrongFalsely : Prop := slotAgreesRow.holds Try.pinned (OpenSpec.ofChange slotAgreesWrong)

/-- 'bellwetherlaw22.SlotHits': WHATEVER THE INPUT: true; the input reads as it did. -/
def slotHitsSpec : ChangeSpec := { name := "slotHits", fn := fun _ => fun
  | [d1, d2, d3] => { results := [.lit (.bool true)], args := [d1, d2, d3] }
  | _ => none }
def slotHitsRow : OpenClaim := { program := "ytdcknaoamjlaiaa", sum := "eb3b14b0891c2a3068a01c1c40f2ffd887a6f48e96083c8c79c30df618e4ebaf", func := "bellwether/bellwetherlaw22.SlotHits", spec := "slotHits", unfollowed := true, recurses := true, apart := false }
def SlotHitsSaid : Prop := slotHitsRow.holds Try.pinned (OpenSpec.ofChange slotHitsSpec)

/-- ITS FALSE NEIGHBOUR: 'it returns false'. Refute it at one input. -/
def slotHitsWrong : ChangeSpec := { name := "slotHits", fn := fun _ => fun
  | [d1, d2, d3] => { results := [.lit (.bool false)], args := [d1, d2, d3] }
  | _ => none }
def SlotHitsWrongFalsely : Prop := slotHitsRow.holds Try.pinned (OpenSpec.ofChange slotHitsWrong)

/-- 'bellwetherlaw23.GateSends': WHATEVER THE INPUT: true; the input reads as it did. -/
def gateSendsSpec : ChangeSpec := { name := "gateSends", fn := fun _ => fun
  | [d1, d2, d3, d4] => { results := [.lit (.bool true)], args := [d1, d2, d3, d4] }
  | _ => none }
def gateSendsRow : OpenClaim := { program := "ytdcknaoamjlaiaa", sum := "eb3b14b0891c2a3068a01c1c40f2ffd887a6f48e96083c8c79c30df618e4ebaf", func := "bellwether/bellwetherlaw23.GateSends", spec := "gateSends", unfollowed := true, recurses := true, apart := false }
def GateSendsSaid : Prop := gateSendsRow.holds Try.pinned (OpenSpec.ofChange gateSendsSpec)

/-- ITS FALSE NEIGHBOUR: 'it returns false'. Refute it at one input. -/
def gateSendsWrong : ChangeSpec := { name := "gateSends", fn := fun _ => fun
  | [d1, d2, d3, d4] => { results := [.lit (.bool false)], args := [d1, d2, d3, d4] }
  | _ => none }
def GateSendsWrongFalsely : Prop := gateSendsRow.holds Try.pinned (OpenSpec.ofChange gateSendsWrong)

/-- 'bellwetherlaw23.GateMute': WHATEVER THE INPUT: true; the input reads as it did. -/
def gateMuteSpec : ChangeSpec := { name := "gateMute", fn := fun _ => fun
  | [d1, d2, d3, d4] => { results := [.lit (.bool true)], args := [d1, d2, d3, d4] }
  | _ => none }
def gateMuteRow : OpenClaim := { program := "ytdcknaoamjlaiaa", sum := "eb3b14b0891c2a3068a01c1c40f2ffd887a6f48e96083c8c79c30df618e4ebaf", func := "bellwether/bellwetherlaw23.GateMute", spec := "gateMute", unfollowed := true, recurses := true, apart := false }
def GateMuteSaid : Prop := gateMuteRow.holds Try.pinned (OpenSpec.ofChange gateMuteSpec)

/-- ITS FALSE NEIGHBOUR: 'it returns false'. Refute it at one input. -/
def gateMuteWrong : ChangeSpec := { name := "gateMute", fn := fun _ => fun
  | [d1, d2, d3, d4] => { results := [.lit (.bool false)], args := [d1, d2, d3, d4] }
  | _ => none }
def GateMuteWrongFalsely : Prop := gateMuteRow.holds Try.pinned (OpenSpec.ofChange gateMuteWrong)

/-- 'bellwetherlaw23.GateGuards': WHATEVER THE INPUT: true; the input reads as it did. -/
def gateGuardsSpec : ChangeSpec := { name := "gateGuards", fn := fun _ => fun
  | [d1, d2, d3, d4] => { results := [.lit (.bool true)], args := [d1, d2, d3, d4] }
  | _ => none }
def gateGuardsRow : OpenClaim := { program := "ytdcknaoamjlaiaa", sum := "eb3b14b0891c2a3068a01c1c40f2ffd887a6f48e96083c8c79c30df618e4ebaf", func := "bellwether/bellwetherlaw23.GateGuards", spec := "gateGuards", unfollowed := true, recurses := true, apart := false }
def GateGuardsSaid : Prop := gateGuardsRow.holds Try.pinned (OpenSpec.ofChange gateGuardsSpec)

/-- ITS FALSE NEIGHBOUR: 'it returns false'. Refute it at one input. -/
def gateGuardsWrong : ChangeSpec := { name := "gateGuards", fn := fun _ => fun
  | [d1, d2, d3, d4] => { results := [.lit (.bool false)], args := [d1, d2, d3, d4] }
  | _ => none }
def GateGuardsWrongFalsely : Prop := gateGuardsRow.holds Try.pinned (OpenSpec.ofChange gateGuardsWrong)

/- THE SECOND FORM. 'bulk': how many values and letters a reading holds, each counted each time it is reached (what is shared counts as often as it is met; a slice's spare places count too). A statement '..UptoSaid' is the law's where the arguments, and the package variables that the reading takes, are together of bulk at most 1048576: NARROWER than '..Said'. Prove '..Said' where nothing that the law and all that it calls make is longer than what came in: it says more and counts as full. Else prove '..UptoSaid'. A law counts once. -/
mutual
def uptoBulk {H : Type} : DataW H → Nat
  | .lit (.string bytes) => bytes.length + 1
  | .lit _ => 1
  | .nil => 1
  | .ptr d => uptoBulk d + 1
  | .slice elems spare => uptoBulkAll elems + uptoBulkAll spare + 1
  | .agg parts => uptoBulkAll parts + 1
  | .iface _ d => uptoBulk d + 1
  | .map entries => uptoBulkEntries entries + 1
  | .held _ => 1
def uptoBulkAll {H : Type} : List (DataW H) → Nat
  | [] => 0
  | d :: r => uptoBulk d + uptoBulkAll r
def uptoBulkEntries {H : Type} : List (Lit × DataW H) → Nat
  | [] => 0
  | x :: r => uptoBulkEntry x + uptoBulkEntries r
def uptoBulkEntry {H : Type} : Lit × DataW H → Nat
  | (.string bytes, d) => bytes.length + uptoBulk d + 1
  | (_, d) => uptoBulk d + 1
 end
def uptoSmall : (H : Type) → List (DataW H) → Bool := fun _ ds => decide (uptoBulkAll ds ≤ 1048576)
def OpenSpec.upto (s : _root_.Go.ChangeSpec) : _root_.Go.OpenSpec := { _root_.Go.OpenSpec.ofChange s with cond := some uptoSmall }

/-- 'bellwetherlaw25.RosterMarks', WHERE WHAT IT READS IS OF BULK AT MOST 1048576: true; the input reads as it did. -/
def rosterMarksUptoRow : OpenClaim := { program := "ytdcknaoamjlaiaa", sum := "eb3b14b0891c2a3068a01c1c40f2ffd887a6f48e96083c8c79c30df618e4ebaf", func := "bellwether/bellwetherlaw25.RosterMarks", spec := "rosterMarks", unfollowed := true, recurses := true, apart := false, narrowed := true }
def RosterMarksUptoSaid : Prop := rosterMarksUptoRow.holds Try.pinned (OpenSpec.upto rosterMarksSpec)

/-- 'bellwetherlaw25.RosterAsks', WHERE WHAT IT READS IS OF BULK AT MOST 1048576: true; the input reads as it did. -/
def rosterAsksUptoRow : OpenClaim := { program := "ytdcknaoamjlaiaa", sum := "eb3b14b0891c2a3068a01c1c40f2ffd887a6f48e96083c8c79c30df618e4ebaf", func := "bellwether/bellwetherlaw25.RosterAsks", spec := "rosterAsks", unfollowed := true, recurses := true, apart := false, narrowed := true }
def RosterAsksUptoSaid : Prop := rosterAsksUptoRow.holds Try.pinned (OpenSpec.upto rosterAsksSpec)

/-- 'bellwetherlaw25.RosterAll', WHERE WHAT IT READS IS OF BULK AT MOST 1048576: true; the input reads as it did. -/
def rosterAllUptoRow : OpenClaim := { program := "ytdcknaoamjlaiaa", sum := "eb3b14b0891c2a3068a01c1c40f2ffd887a6f48e96083c8c79c30df618e4ebaf", func := "bellwether/bellwetherlaw25.RosterAll", spec := "rosterAll", unfollowed := true, recurses := true, apart := false, narrowed := true }
def RosterAllUptoSaid : Prop := rosterAllUptoRow.holds Try.pinned (OpenSpec.upto rosterAllSpec)

/-- 'bellwetherlaw25.RosterJoins', WHERE WHAT IT READS IS OF BULK AT MOST 1048576: true; the input reads as it did. -/
def rosterJoinsUptoRow : OpenClaim := { program := "ytdcknaoamjlaiaa", sum := "eb3b14b0891c2a3068a01c1c40f2ffd887a6f48e96083c8c79c30df618e4ebaf", func := "bellwether/bellwetherlaw25.RosterJoins", spec := "rosterJoins", unfollowed := true, recurses := true, apart := false, narrowed := true }
def RosterJoinsUptoSaid : Prop := rosterJoinsUptoRow.holds Try.pinned (OpenSpec.upto rosterJoinsSpec)

/-- 'bellwetherlaw27.StatusTells', WHERE WHAT IT READS IS OF BULK AT MOST 1048576: true; the input reads as it did. -/
def statusTellsUptoRow : OpenClaim := { program := "ytdcknaoamjlaiaa", sum := "eb3b14b0891c2a3068a01c1c40f2ffd887a6f48e96083c8c79c30df618e4ebaf", func := "bellwether/bellwetherlaw27.StatusTells", spec := "statusTells", unfollowed := true, recurses := true, apart := false, narrowed := true }
def StatusTellsUptoSaid : Prop := statusTellsUptoRow.holds Try.pinned (OpenSpec.upto statusTellsSpec)

/-- 'bellwetherlaw27.StatusMute', WHERE WHAT IT READS IS OF BULK AT MOST 1048576: true; the input reads as it did. -/
def statusMuteUptoRow : OpenClaim := { program := "ytdcknaoamjlaiaa", sum := "eb3b14b0891c2a3068a01c1c40f2ffd887a6f48e96083c8c79c30df618e4ebaf", func := "bellwether/bellwetherlaw27.StatusMute", spec := "statusMute", unfollowed := true, recurses := true, apart := false, narrowed := true }
def StatusMuteUptoSaid : Prop := statusMuteUptoRow.holds Try.pinned (OpenSpec.upto statusMuteSpec)

/-- 'bellwetherlaw27.StatusAgrees', WHERE WHAT IT READS IS OF BULK AT MOST 1048576: true; the input reads as it did. -/
def statusAgreesUptoRow : OpenClaim := { program := "ytdcknaoamjlaiaa", sum := "eb3b14b0891c2a3068a01c1c40f2ffd887a6f48e96083c8c79c30df618e4ebaf", func := "bellwether/bellwetherlaw27.StatusAgrees", spec := "statusAgrees", unfollowed := true, recurses := true, apart := false, narrowed := true }
def StatusAgreesUptoSaid : Prop := statusAgreesUptoRow.holds Try.pinned (OpenSpec.upto statusAgreesSpec)

/-- 'bellwetherlaw23.GateOpens', WHERE WHAT IT READS IS OF BULK AT MOST 1048576: true; the input reads as it did. -/
def gateOpensUptoRow : OpenClaim := { program := "ytdcknaoamjlaiaa", sum := "eb3b14b0891c2a3068a01c1c40f2ffd887a6f48e96083c8c79c30df618e4ebaf", func := "bellwether/bellwetherlaw23.GateOpens", spec := "gateOpens", unfollowed := true, recurses := true, apart := false, narrowed := true }
def GateOpensUptoSaid : Prop := gateOpensUptoRow.holds Try.pinned (OpenSpec.upto gateOpensSpec)

/-- 'bellwetherlaw22.SlotPlaces', WHERE WHAT IT READS IS OF BULK AT MOST 1048576: true; the input reads as it did. -/
def slotPlacesUptoRow : OpenClaim := { program := "ytdcknaoamjlaiaa", sum := "eb3b14b0891c2a3068a01c1c40f2ffd887a6f48e96083c8c79c30df618e4ebaf", func := "bellwether/bellwetherlaw22.SlotPlaces", spec := "slotPlaces", unfollowed := true, recurses := true, apart := false, narrowed := true }
def SlotPlacesUptoSaid : Prop := slotPlacesUptoRow.holds Try.pinned (OpenSpec.upto slotPlacesSpec)

/-- 'bellwetherlaw22.SlotWindows', WHERE WHAT IT READS IS OF BULK AT MOST 1048576: true; the input reads as it did. -/
def slotWindowsUptoRow : OpenClaim := { program := "ytdcknaoamjlaiaa", sum := "eb3b14b0891c2a3068a01c1c40f2ffd887a6f48e96083c8c79c30df618e4ebaf", func := "bellwether/bellwetherlaw22.SlotWindows", spec := "slotWindows", unfollowed := true, recurses := true, apart := false, narrowed := true }
def SlotWindowsUptoSaid : Prop := slotWindowsUptoRow.holds Try.pinned (OpenSpec.upto slotWindowsSpec)

/-- 'bellwetherlaw22.SlotAgrees', WHERE WHAT IT READS IS OF BULK AT MOST 1048576: true; the input reads as it did. -/
def slotAgreesUptoRow : OpenClaim := { program := "ytdcknaoamjlaiaa", sum := "eb3b14b0891c2a3068a01c1c40f2ffd887a6f48e96083c8c79c30df618e4ebaf", func := "bellwether/bellwetherlaw22.SlotAgrees", spec := "slotAgrees", unfollowed := true, recurses := true, apart := false, narrowed := true }
def SlotAgreesUptoSaid : Prop := slotAgreesUptoRow.holds Try.pinned (OpenSpec.upto slotAgreesSpec)

/-- 'bellwetherlaw22.SlotHits', WHERE WHAT IT READS IS OF BULK AT MOST 1048576: true; the input reads as it did. -/
def slotHitsUptoRow : OpenClaim := { program := "ytdcknaoamjlaiaa", sum := "eb3b14b0891c2a3068a01c1c40f2ffd887a6f48e96083c8c79c30df618e4ebaf", func := "bellwether/bellwetherlaw22.SlotHits", spec := "slotHits", unfollowed := true, recurses := true, apart := false, narrowed := true }
def SlotHitsUptoSaid : Prop := slotHitsUptoRow.holds Try.pinned (OpenSpec.upto slotHitsSpec)

/-- 'bellwetherlaw23.GateSends', WHERE WHAT IT READS IS OF BULK AT MOST 1048576: true; the input reads as it did. -/
def gateSendsUptoRow : OpenClaim := { program := "ytdcknaoamjlaiaa", sum := "eb3b14b0891c2a3068a01c1c40f2ffd887a6f48e96083c8c79c30df618e4ebaf", func := "bellwether/bellwetherlaw23.GateSends", spec := "gateSends", unfollowed := true, recurses := true, apart := false, narrowed := true }
def GateSendsUptoSaid : Prop := gateSendsUptoRow.holds Try.pinned (OpenSpec.upto gateSendsSpec)

/-- 'bellwetherlaw23.GateMute', WHERE WHAT IT READS IS OF BULK AT MOST 1048576: true; the input reads as it did. -/
def gateMuteUptoRow : OpenClaim := { program := "ytdcknaoamjlaiaa", sum := "eb3b14b0891c2a3068a01c1c40f2ffd887a6f48e96083c8c79c30df618e4ebaf", func := "bellwether/bellwetherlaw23.GateMute", spec := "gateMute", unfollowed := true, recurses := true, apart := false, narrowed := true }
def GateMuteUptoSaid : Prop := gateMuteUptoRow.holds Try.pinned (OpenSpec.upto gateMuteSpec)

/-- 'bellwetherlaw23.GateGuards', WHERE WHAT IT READS IS OF BULK AT MOST 1048576: true; the input reads as it did. -/
def gateGuardsUptoRow : OpenClaim := { program := "ytdcknaoamjlaiaa", sum := "eb3b14b0891c2a3068a01c1c40f2ffd887a6f48e96083c8c79c30df618e4ebaf", func := "bellwether/bellwetherlaw23.GateGuards", spec := "gateGuards", unfollowed := true, recurses := true, apart := false, narrowed := true }
def GateGuardsUptoSaid : Prop := gateGuardsUptoRow.holds Try.pinned (OpenSpec.upto gateGuardsSpec)

end Rows
end Go.Proofs.Ytdcknaoamjlaiaa
