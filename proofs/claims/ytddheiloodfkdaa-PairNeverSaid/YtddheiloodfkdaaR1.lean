/- Is there time to walk from one time to another, by package person; plain. -/
import Derived.Test.YtddheiloodfkdaaQ7
import Derived.Test.YtddheiloodfkdaaW6
set_option linter.unusedVariables false
set_option linter.unusedSimpArgs false
namespace Go.Proofs.Ytddheiloodfkdaa.R1
open Go.RowKit Go.Proofs.YtddheiloodfkdaaW.PrintWords Go.Proofs.YtddheiloodfkdaaW.PrintLast Go.Proofs.YtddheiloodfkdaaW.PrintMore Go.Proofs.Ytddheiloodfkdaa.M Go.Proofs.Ytddheiloodfkdaa.Q Go.Proofs.Ytddheiloodfkdaa.W1 Go.Proofs.Ytddheiloodfkdaa.W3 Go.Proofs.Ytddheiloodfkdaa.W6
section
variable {aw ad ap al bw bd bp bl wl : Int}
def RCH (aw ad ap al bw bd bp bl wl : Int) : Prop := ¬ MT aw ad ap al bw bd bp bl ∧ (SD aw ad ap al bw bd bp bl → max ap bp - min (ap + al) (bp + bl) ≥ wl)
instance : Decidable (RCH aw ad ap al bw bd bp bl wl) := inferInstanceAs (Decidable (_ ∧ _))
theorem Reach_f (u0 : 0 ≤ aw ∧ aw < 4294967296) (u1 : 0 ≤ ad ∧ ad < 256) (v0 : 0 ≤ bw ∧ bw < 4294967296) (v1 : 0 ≤ bd ∧ bd < 256) :
    person_Reach.f aw ad ap al bw bd bp bl wl = some (decide (RCH aw ad ap al bw bd bp bl wl)) := by
  unfold person_Reach.f
  rw [when_Meet_f u0 u1 v0 v1, when_Gap_f u0 u1 v0 v1]
  simp only [Option.bind_some, decide_eq_true_eq]
  by_cases hm : MT aw ad ap al bw bd bp bl
  · rw [if_pos hm, decide_eq_false (fun h => h.1 hm)]
  · rw [if_neg hm]
    by_cases hs : SD aw ad ap al bw bd bp bl
    · simp only [if_pos (show SD aw ad ap al bw bd bp bl ∧ ¬ MT aw ad ap al bw bd bp bl from ⟨hs, hm⟩), if_true]
      congr 1
      exact decide_eq_decide.mpr ⟨fun h => ⟨hm, fun _ => h⟩, fun h => h.2 hs⟩
    · simp only [if_neg (show ¬ (SD aw ad ap al bw bd bp bl ∧ ¬ MT aw ad ap al bw bd bp bl) from fun h => hs h.1), Bool.false_eq_true, if_false]
      rw [decide_eq_true (show RCH aw ad ap al bw bd bp bl wl from ⟨hm, fun h => absurd h hs⟩)]
theorem RCH_comm : RCH aw ad ap al bw bd bp bl wl ↔ RCH bw bd bp bl aw ad ap al wl := by
  unfold RCH
  rw [MT_comm, SD_comm, Int.max_comm, Int.min_comm]
theorem RCH_zero : RCH aw ad ap al bw bd bp bl 0 ↔ ¬ MT aw ad ap al bw bd bp bl := by
  unfold RCH
  constructor
  · exact fun h => h.1
  · refine fun h => ⟨h, fun hs => ?_⟩
    have : ¬ (ap < bp + bl ∧ bp < ap + al) := fun h2 => h ⟨hs, h2⟩
    have h3 := hs.1
    have h4 := hs.2.1
    unfold TM at h3 h4
    omega
theorem RCH_less (h : RCH aw ad ap al bw bd bp bl wl) : RCH aw ad ap al bw bd bp bl (mn wl 0) := by
  refine ⟨h.1, fun hs => ?_⟩
  have := h.2 hs
  rw [mn_eq]
  omega
end
end Go.Proofs.Ytddheiloodfkdaa.R1
