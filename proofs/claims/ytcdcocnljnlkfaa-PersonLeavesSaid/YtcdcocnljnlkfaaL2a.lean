/- A list of times at a place. -/
import Derived.Test.YtcdcocnljnlkfaaQ0
import Derived.Test.YtcdcocnljnlkfaaM
import Derived.Test.YtcdcocnljnlkfaaL1
namespace Go.Proofs.Ytcdcocnljnlkfaa.L2
open Go.RowKit Go.Proofs.YtcdcocnljnlkfaaW.PrintWords Go.Proofs.Ytcdcocnljnlkfaa.M Go.Proofs.Ytcdcocnljnlkfaa.Q Go.Proofs.Ytcdcocnljnlkfaa.L1
theorem rd_at (l : List S27) (i : Nat) : rd_T27 l (i : Int) = l.getD i z27 := by simp [rd_T27]
end Go.Proofs.Ytcdcocnljnlkfaa.L2
