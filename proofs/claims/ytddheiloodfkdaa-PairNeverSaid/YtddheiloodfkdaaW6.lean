/- Gap, by package when (plain, over the printed function). -/
import Derived.Test.YtddheiloodfkdaaQ7
import Derived.Test.YtddheiloodfkdaaW3a
namespace Go.Proofs.Ytddheiloodfkdaa.W6
open Go.RowKit Go.Proofs.YtddheiloodfkdaaW.PrintWords Go.Proofs.YtddheiloodfkdaaW.PrintLast Go.Proofs.YtddheiloodfkdaaW.PrintMore Go.Proofs.Ytddheiloodfkdaa.M Go.Proofs.Ytddheiloodfkdaa.Q Go.Proofs.Ytddheiloodfkdaa.W1 Go.Proofs.Ytddheiloodfkdaa.W3
theorem when_Gap_f {aw ad ap al bw bd bp bl : Int} (u0 : 0 ≤ aw ∧ aw < 4294967296) (u1 : 0 ≤ ad ∧ ad < 256) (v0 : 0 ≤ bw ∧ bw < 4294967296) (v1 : 0 ≤ bd ∧ bd < 256) :
    when_Gap.f aw ad ap al bw bd bp bl = some (if SD aw ad ap al bw bd bp bl ∧ ¬ MT aw ad ap al bw bd bp bl then (max ap bp - min (ap + al) (bp + bl), true) else (0, false)) := by
  unfold when_Gap.f
  simp only [when_SameDay_f u0 u1 v0 v1, when_Meet_f u0 u1 v0 v1, Option.bind_some, decide_eq_true_eq]
  by_cases h : SD aw ad ap al bw bd bp bl
  · have h' := h
    unfold SD TM at h'
    rw [if_pos h]
    by_cases h2 : MT aw ad ap al bw bd bp bl
    · rw [if_pos h2, if_neg (fun h3 => h3.2 h2)]
    · rw [if_neg h2, if_pos ⟨h, h2⟩, w64 (n := ap + al) (by omega) (by omega), w64 (n := bp + bl) (by omega) (by omega), mx_eq, mn_eq, w64 (n := max ap bp - min (ap + al) (bp + bl)) (by omega) (by omega)]
  · rw [if_neg h, if_neg (fun h3 => h h3.1)]
end Go.Proofs.Ytddheiloodfkdaa.W6
