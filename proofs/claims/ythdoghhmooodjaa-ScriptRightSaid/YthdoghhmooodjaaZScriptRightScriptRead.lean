import Derived.Test.YthdoghhmooodjaaZScriptRightGn0
import Derived.Test.YthdoghhmooodjaaZScriptRightGn14
import Derived.Test.YthdoghhmooodjaaZScriptRightGn16
import Derived.Test.YthdoghhmooodjaaZScriptRightGn20
import Derived.Test.YthdoghhmooodjaaZScriptRightGn21
import Derived.Test.YthdoghhmooodjaaZScriptRightGn22
import Derived.Test.YthdoghhmooodjaaZScriptRightGn1
import Derived.Test.YthdoghhmooodjaaZScriptRightGn28
import Derived.Test.YthdoghhmooodjaaZScriptRightGn63
import Derived.Test.YthdoghhmooodjaaZScriptRightScriptMore
namespace Go.Proofs.Ythdoghhmooodjaa.Facts
open Go.RowKit Go.Proofs.Ythdoghhmooodjaa.Gn Go.Proofs.YthdoghhmooodjaaW.PrintWords Go.Proofs.YthdoghhmooodjaaW.PrintLast
set_option linter.unusedVariables false
set_option linter.unusedSimpArgs false
theorem known33_at : l33_known.f 60 = some true := by decide +kernel
theorem known33 (k : Nat) (hk : 60 ≤ k) : l33_known.f k = some true := leo_up l33_known.mono hk known33_at
end Go.Proofs.Ythdoghhmooodjaa.Facts
