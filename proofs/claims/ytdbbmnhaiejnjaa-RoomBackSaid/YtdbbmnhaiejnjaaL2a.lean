/- A list of times at a place. -/
import Derived.Test.YtdbbmnhaiejnjaaQ0
import Derived.Test.YtdbbmnhaiejnjaaM
import Derived.Test.YtdbbmnhaiejnjaaL1
namespace Go.Proofs.Ytdbbmnhaiejnjaa.L2
open Go.RowKit Go.Proofs.YtdbbmnhaiejnjaaW.PrintWords Go.Proofs.Ytdbbmnhaiejnjaa.M Go.Proofs.Ytdbbmnhaiejnjaa.Q Go.Proofs.Ytdbbmnhaiejnjaa.L1
theorem rd_at (l : List S38) (i : Nat) : rd_T38 l (i : Int) = l.getD i z38 := by simp [rd_T38]
end Go.Proofs.Ytdbbmnhaiejnjaa.L2
