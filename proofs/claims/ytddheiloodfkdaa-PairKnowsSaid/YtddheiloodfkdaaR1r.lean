/- Is there time to walk from one time to another, by the document's answer; plain. -/
import Derived.Test.YtddheiloodfkdaaQ24
import Derived.Test.YtddheiloodfkdaaW5a
import Derived.Test.YtddheiloodfkdaaR1
set_option linter.unusedVariables false
set_option linter.unusedSimpArgs false
namespace Go.Proofs.Ytddheiloodfkdaa.R1
open Go.RowKit Go.Proofs.YtddheiloodfkdaaW.PrintWords Go.Proofs.YtddheiloodfkdaaW.PrintLast Go.Proofs.YtddheiloodfkdaaW.PrintMore Go.Proofs.Ytddheiloodfkdaa.M Go.Proofs.Ytddheiloodfkdaa.Q Go.Proofs.Ytddheiloodfkdaa.W1 Go.Proofs.Ytddheiloodfkdaa.W3 Go.Proofs.Ytddheiloodfkdaa.W5 Go.Proofs.Ytddheiloodfkdaa.W6
section
variable {aw ad ap al bw bd bp bl wl : Int}
theorem ref_Reach_f (u0 : 0 ≤ aw ∧ aw < 4294967296) (u1 : 0 ≤ ad ∧ ad < 256) (v0 : 0 ≤ bw ∧ bw < 4294967296) (v1 : 0 ≤ bd ∧ bd < 256) :
    Ev (fun k => horariumref12_Reach.f k aw ad ap al bw bd bp bl wl) (decide (RCH aw ad ap al bw bd bp bl wl)) := by
  unfold horariumref12_Reach.f
  refine Ev.bind (ref_Gap_f u0 u1 v0 v1) (Ev.bind (ref_Meet_f u0 u1 v0 v1) ?_)
  simp only [decide_eq_true_eq]
  by_cases hm : MT aw ad ap al bw bd bp bl
  · simp only [if_pos hm]
    rw [decide_eq_false (fun h => h.1 hm)]
    exact Ev.now _
  · simp only [if_neg hm]
    by_cases hs : SD aw ad ap al bw bd bp bl
    · simp only [if_pos (show SD aw ad ap al bw bd bp bl ∧ ¬ MT aw ad ap al bw bd bp bl from ⟨hs, hm⟩), if_true]
      rw [decide_eq_decide.mpr (show max ap bp - min (ap + al) (bp + bl) ≥ wl ↔ RCH aw ad ap al bw bd bp bl wl from ⟨fun h => ⟨hm, fun _ => h⟩, fun h => h.2 hs⟩)]
      exact Ev.now _
    · simp only [if_neg (show ¬ (SD aw ad ap al bw bd bp bl ∧ ¬ MT aw ad ap al bw bd bp bl) from fun h => hs h.1), Bool.false_eq_true, if_false]
      rw [decide_eq_true (show RCH aw ad ap al bw bd bp bl wl from ⟨hm, fun h => absurd h hs⟩)]
      exact Ev.now _
end
end Go.Proofs.Ytddheiloodfkdaa.R1
