import Derived.Test.YtjfcedhjmmnofaaZSchedOneSchedFacts
import Derived.Test.YtjfcedhjmmnofaaZSchedOneGn5
import Derived.Test.YtjfcedhjmmnofaaZSchedOneGn7
import Derived.Test.YtjfcedhjmmnofaaZSchedOneGn8
import Derived.Test.YtjfcedhjmmnofaaZSchedOneGn0
import Derived.Test.YtjfcedhjmmnofaaZSchedOneGn1
import Derived.Test.YtjfcedhjmmnofaaZSchedOneGn11
namespace Go.Proofs.Ytjfcedhjmmnofaa.Facts
open Go.RowKit Go.Proofs.Ytjfcedhjmmnofaa.Gn Go.Proofs.YtjfcedhjmmnofaaW.PrintWords Go.Proofs.YtjfcedhjmmnofaaW.PrintLast
set_option linter.unusedVariables false
section
variable (c0 c1 c2 c3 c4 c5 c6 c7 c8 c9 : Int) (l : List Int)
end
theorem known21 (k : Nat) (hk : 300 ≤ k) : bellwetherlaw21_known.f k = some true := leo_up bellwetherlaw21_known.mono hk (by decide +kernel)
end Go.Proofs.Ytjfcedhjmmnofaa.Facts
