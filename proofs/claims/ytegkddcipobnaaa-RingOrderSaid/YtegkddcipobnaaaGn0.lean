-- Printed by wip/hprint.py (this session's own turn of the print). Not trusted: Lean checks it.
import Derived.Test.YtegkddcipobnaaaProg
import Derived.Below
import Derived.Deep.Draws
import Derived.Deep.AppendLies
import Derived.Maps.AppendAt
import Derived.OwnWalk
import Derived.Laws.BytesArg
import Derived.Laws.MakeOwn
import Derived.Laws.OwnMore
import Derived.Deep.OwnRows
import Derived.Tactics
import Derived.Lib.ConvBytes
import Derived.Laws.Slices
import Derived.WalkKit
import Derived.KernelRfl
import Derived.RowKit3
import Derived.Deep.LoopGhost
import Derived.Deep.QuietTactic
import Derived.BigQuiet
import Derived.WideLaws
import Derived.Deep.DeepCutAuto
import Derived.Deep.CutBlock
import Derived.Deep.RegionHeld3
import Derived.Laws.Rows
import Derived.Lib.AppendStr
import Derived.ArgAppend
import Derived.Laws.IdiomCopy
import Derived.OrdersHeld
import Derived.Laws.BitsLemmas
import Derived.RowKit
import Derived.Test.YtegkddcipobnaaaWWords
import Derived.Test.YtegkddcipobnaaaWLast
import Derived.Test.YtegkddcipobnaaaWTab
import Derived.Test.YtegkddcipobnaaaWFour
import Derived.Test.YtegkddcipobnaaaWQPut
import Derived.Test.YtegkddcipobnaaaWApart
import Derived.Test.YtegkddcipobnaaaWArr
import Derived.Test.YtegkddcipobnaaaWZeros
import Derived.Test.YtegkddcipobnaaaWFoot
import Derived.Test.YtegkddcipobnaaaWKept
import Derived.Test.YtegkddcipobnaaaWShare
import Derived.Test.YtegkddcipobnaaaWN
import Derived.Test.YtegkddcipobnaaaWFootNe
import Derived.Test.YtegkddcipobnaaaWAt
import Derived.Test.YtegkddcipobnaaaWEqStruct
import Derived.Test.YtegkddcipobnaaaWRepsOne
import Derived.Test.YtegkddcipobnaaaWInv
import Derived.Test.YtegkddcipobnaaaWInvWords
import Derived.Test.YtegkddcipobnaaaWGuard
import Derived.Test.YtegkddcipobnaaaWNEv
import Derived.Test.YtegkddcipobnaaaWMore
namespace Go.Proofs.Ytegkddcipobnaaa.Gn
open Go.RowKit Go.Proofs.YtegkddcipobnaaaW.PrintWords Go.Proofs.YtegkddcipobnaaaW.PrintLast Go.Proofs.YtegkddcipobnaaaW.PrintMore
attribute [local go_sem] max2_int min2_int max_two min_two max_three min_three max_four min_four   -- for this text's walks alone
set_option linter.unusedVariables false
set_option linter.unusedSimpArgs false



def errW : Option Int → Value
  | none => .nilIface
  | some c => .iface 0 (.int .i64 c)
theorem errW_none : errW none = .nilIface := rfl
theorem errW_some (c : Int) : errW (some c) = .iface 0 (.int .i64 c) := rfl

-- the values' own types

end Go.Proofs.Ytegkddcipobnaaa.Gn
