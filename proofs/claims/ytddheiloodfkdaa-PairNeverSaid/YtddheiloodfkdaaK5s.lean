/- What can't hold any more (plain). -/
import Derived.Test.YtddheiloodfkdaaK3
set_option linter.unusedVariables false
set_option linter.unusedSimpArgs false
namespace Go.Proofs.Ytddheiloodfkdaa.K3
open Go.RowKit Go.Proofs.YtddheiloodfkdaaW.PrintWords Go.Proofs.YtddheiloodfkdaaW.PrintLast Go.Proofs.YtddheiloodfkdaaW.PrintMore Go.Proofs.Ytddheiloodfkdaa.M Go.Proofs.Ytddheiloodfkdaa.Q Go.Proofs.Ytddheiloodfkdaa.W1 Go.Proofs.Ytddheiloodfkdaa.W3 Go.Proofs.Ytddheiloodfkdaa.K1 Go.Proofs.Ytddheiloodfkdaa.K2 Go.Proofs.Ytddheiloodfkdaa.R1
/-- Whether a rule can't hold any more: h, whether it holds; h0, whether it holds where one need not walk. -/
def NV (kd aw ar bw br : Int) (h h0 : Bool) : Bool :=
  if kd = 14 then decide (aw ≠ 0 ∧ bw ≠ 0) && (!h0 || (!h && decide (ar ≠ -2 ∧ br ≠ -2)))
  else if kd = 10 ∨ kd = 11 then (decide (ar ≠ -2 ∧ br ≠ -2) || (decide (kd = 10) && decide (ar = -1 ∨ br = -1))) && !h
  else decide (KN kd) && (decide (aw ≠ 0 ∧ bw ≠ 0) && !h)
end Go.Proofs.Ytddheiloodfkdaa.K3
