import Derived.Test.YtdcknaoamjlaiaaZGateGuardsGn55
import Derived.Test.YtdcknaoamjlaiaaZGateGuardsRingFacts0
import Derived.Test.YtdcknaoamjlaiaaZGateGuardsCommon
import Derived.Test.YtdcknaoamjlaiaaZGateGuardsGateFacts
namespace Go.Proofs.Ytdcknaoamjlaiaa.Facts
open Go.RowKit Go.Proofs.Ytdcknaoamjlaiaa.Gn Go.Proofs.YtdcknaoamjlaiaaW.PrintWords Go.Proofs.YtdcknaoamjlaiaaW.PrintLast
theorem known23 (k : Nat) (hk : 300 ≤ k) : bellwetherlaw23_known.f k = some true := leo_up bellwetherlaw23_known.mono hk (by decide +kernel)
end Go.Proofs.Ytdcknaoamjlaiaa.Facts
