/- Covers, by package when (plain, over the printed function). -/
import Derived.Test.YtlkmjjdkkkledaaQ16
import Derived.Test.YtlkmjjdkkkledaaW3
namespace Go.Proofs.Ytlkmjjdkkkledaa.W10
open Go.RowKit Go.Proofs.YtlkmjjdkkkledaaW.PrintWords Go.Proofs.YtlkmjjdkkkledaaW.PrintLast Go.Proofs.YtlkmjjdkkkledaaW.PrintMore Go.Proofs.Ytlkmjjdkkkledaa.M Go.Proofs.Ytlkmjjdkkkledaa.Q Go.Proofs.Ytlkmjjdkkkledaa.W1 Go.Proofs.Ytlkmjjdkkkledaa.W3
theorem when_Covers_f {aw ad ap al bw bd bp bl : Int} (u0 : 0 ≤ aw ∧ aw < 4294967296) (u1 : 0 ≤ ad ∧ ad < 256) (v0 : 0 ≤ bw ∧ bw < 4294967296) (v1 : 0 ≤ bd ∧ bd < 256) :
    when_Covers.f aw ad ap al bw bd bp bl = some (decide (MT aw ad ap al bw bd bp bl ∧ AND aw bw = bw ∧ AND ad bd = bd ∧ max ap bp = bp ∧ min (ap + al) (bp + bl) - max ap bp = bl)) := by
  unfold when_Covers.f
  rw [when_Both_f u0 u1 v0 v1, Option.bind_some]
  by_cases h : MT aw ad ap al bw bd bp bl
  · simp only [if_pos h, if_true]
    congr 1
    rw [Bool.eq_iff_iff, decide_eq_true_eq]
    simp [h]
  · simp [h]
end Go.Proofs.Ytlkmjjdkkkledaa.W10
