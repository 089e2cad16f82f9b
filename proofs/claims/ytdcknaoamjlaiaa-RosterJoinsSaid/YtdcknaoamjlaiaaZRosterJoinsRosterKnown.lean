import Derived.Test.YtdcknaoamjlaiaaZRosterJoinsRosterLists
import Derived.Test.YtdcknaoamjlaiaaZRosterJoinsGn4
namespace Go.Proofs.Ytdcknaoamjlaiaa.Facts
open Go.RowKit Go.Proofs.Ytdcknaoamjlaiaa.Gn Go.Proofs.YtdcknaoamjlaiaaW.PrintWords Go.Proofs.YtdcknaoamjlaiaaW.PrintLast
theorem known25 (k : Nat) (hk : 200 ≤ k) : bellwetherlaw25_known.f k = some true := leo_up bellwetherlaw25_known.mono hk (by decide +kernel)
end Go.Proofs.Ytdcknaoamjlaiaa.Facts
