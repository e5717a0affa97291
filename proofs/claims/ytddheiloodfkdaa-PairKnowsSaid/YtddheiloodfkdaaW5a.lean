/- The gap of two times by the document's answer; plain. -/
import Derived.Test.YtddheiloodfkdaaQ23
import Derived.Test.YtddheiloodfkdaaW3
namespace Go.Proofs.Ytddheiloodfkdaa.W5
open Go.RowKit Go.Proofs.YtddheiloodfkdaaW.PrintWords Go.Proofs.YtddheiloodfkdaaW.PrintLast Go.Proofs.YtddheiloodfkdaaW.PrintMore Go.Proofs.Ytddheiloodfkdaa.M Go.Proofs.Ytddheiloodfkdaa.Q Go.Proofs.Ytddheiloodfkdaa.W1 Go.Proofs.Ytddheiloodfkdaa.W3
set_option linter.unusedSimpArgs false
section
variable {aw ad ap al bw bd bp bl : Int}
theorem ref_Gap_f (u0 : 0 ≤ aw ∧ aw < 4294967296) (u1 : 0 ≤ ad ∧ ad < 256) (v0 : 0 ≤ bw ∧ bw < 4294967296) (v1 : 0 ≤ bd ∧ bd < 256) :
    Ev (fun k => horariumref09_Gap.f k aw ad ap al bw bd bp bl) (if SD aw ad ap al bw bd bp bl ∧ ¬ MT aw ad ap al bw bd bp bl then (max ap bp - min (ap + al) (bp + bl), true) else (0, false)) := by
  unfold horariumref09_Gap.f
  refine Ev.bind (ref_SameDay_f u0 u1 v0 v1) ?_
  by_cases h : SD aw ad ap al bw bd bp bl
  · simp only [decide_eq_true_eq, if_pos h]
    refine Ev.bind (ref_slots_f h.1 h.2.1) ?_
    have h' := h
    unfold SD TM at h'
    by_cases h2 : ap < bp + bl ∧ bp < ap + al
    · rw [if_neg (fun h3 => h3.2 ⟨h, h2⟩)]
      refine Ev.step (f := fun _ => some _) (fun k => ?_) (Ev.now _)
      simp only [horariumref09_Gap.j0]
      rw [if_pos (decide_eq_true h2)]
    · rw [if_pos ⟨h, fun h3 => h2 h3.2⟩]
      refine Ev.step (f := fun _ => some _) (fun k => ?_) (Ev.now _)
      simp only [horariumref09_Gap.j0]
      rw [if_neg (by simpa using h2)]
      by_cases h3 : ap < bp
      · rw [if_pos h3, w64 (n := bp - ap) (by omega) (by omega), w64 (n := bp - ap - al) (by omega) (by omega)]
        congr 2
        omega
      · rw [if_neg h3, w64 (n := ap - bp) (by omega) (by omega), w64 (n := ap - bp - bl) (by omega) (by omega)]
        congr 2
        omega
  · simp only [decide_eq_true_eq, if_neg h]
    rw [if_neg (fun h3 => h h3.1)]
    refine Ev.step (f := fun _ => some _) (fun k => ?_) (Ev.now _)
    simp only [horariumref09_Gap.j0]
    rw [if_pos trivial]
end
end Go.Proofs.Ytddheiloodfkdaa.W5
