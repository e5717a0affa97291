/- What a rule over two spots says (plain). -/
import Derived.Test.YtddheiloodfkdaaK1
import Derived.Test.YtddheiloodfkdaaK2
import Derived.Test.YtddheiloodfkdaaR1
set_option linter.unusedVariables false
set_option linter.unusedSimpArgs false
namespace Go.Proofs.Ytddheiloodfkdaa.K3
open Go.RowKit Go.Proofs.YtddheiloodfkdaaW.PrintWords Go.Proofs.YtddheiloodfkdaaW.PrintLast Go.Proofs.YtddheiloodfkdaaW.PrintMore Go.Proofs.Ytddheiloodfkdaa.M Go.Proofs.Ytddheiloodfkdaa.Q Go.Proofs.Ytddheiloodfkdaa.W1 Go.Proofs.Ytddheiloodfkdaa.W3 Go.Proofs.Ytddheiloodfkdaa.K1 Go.Proofs.Ytddheiloodfkdaa.K2 Go.Proofs.Ytddheiloodfkdaa.R1
/-- One known room. -/
def ONE (ar br : Int) : Prop := ar ≥ 0 ∧ ar = br
instance (ar br : Int) : Decidable (ONE ar br) := by unfold ONE; infer_instance
/-- What a rule over times says, of times that may be. -/
noncomputable def TI (g1 g2 k n aw ad ap al bw bd bp bl wl : Int) : Bool :=
  if k = 9 then !decide (MT aw ad ap al bw bd bp bl) else if k = 8 then decide (MT aw ad ap al bw bd bp bl)
  else if k = 1 then decide (ap = bp) else if k = 2 then decide ((bp ≤ ap ∧ ap + al ≤ bp + bl) ∨ (ap ≤ bp ∧ bp + bl ≤ ap + al))
  else if k = 3 then decide (ap + al ≤ bp ∨ bp + bl ≤ ap) else if k = 4 then decide (AND ad bd = ad ∨ AND ad bd = bd)
  else if k = 5 then decide (AND ad bd = 0) else if k = 6 then decide (AND aw bw = aw ∨ AND aw bw = bw)
  else if k = 7 then decide (AND aw bw = 0) else if k = 12 then decide (FM g1 g2 aw ad ap + al - 1 < FM g1 g2 bw bd bp)
  else if k = 13 then decide (¬ SD aw ad ap al bw bd bp bl ∨ max (ap + al) (bp + bl) - min ap bp ≤ n)
  else decide (RCH aw ad ap al bw bd bp bl wl)
/-- What a rule over two spots says. -/
noncomputable def HB (g0 g1 g2 kd n aw ad ap al ar bw bd bp bl br wl : Int) : Bool :=
  if kd = 11 then !decide (ONE ar br) else if kd = 10 then decide (ONE ar br)
  else decide (KN kd) && (decide (RT g0 g1 g2 aw ad ap al) && (decide (RT g0 g1 g2 bw bd bp bl) && TI g1 g2 kd n aw ad ap al bw bd bp bl wl))
section
variable {g0 g1 g2 kd n aw ad ap al ar bw bd bp bl br wl : Int}
theorem HB_time (h : KN kd) (h0 : kd ≠ 10) (h1 : kd ≠ 11) (ha : RT g0 g1 g2 aw ad ap al) (hb : RT g0 g1 g2 bw bd bp bl) : HB g0 g1 g2 kd n aw ad ap al ar bw bd bp bl br wl = TI g1 g2 kd n aw ad ap al bw bd bp bl wl := by
  unfold HB
  rw [if_neg h1, if_neg h0, decide_eq_true h, decide_eq_true ha, decide_eq_true hb]
  rfl
theorem HB_out (h0 : kd ≠ 10) (h1 : kd ≠ 11) (h : ¬ (KN kd ∧ RT g0 g1 g2 aw ad ap al ∧ RT g0 g1 g2 bw bd bp bl)) : HB g0 g1 g2 kd n aw ad ap al ar bw bd bp bl br wl = false := by
  unfold HB
  rw [if_neg h1, if_neg h0]
  by_cases c0 : KN kd
  · by_cases c1 : RT g0 g1 g2 aw ad ap al
    · by_cases c2 : RT g0 g1 g2 bw bd bp bl
      · exact absurd ⟨c0, c1, c2⟩ h
      · rw [decide_eq_false c2]; simp
    · rw [decide_eq_false c1]; simp
  · rw [decide_eq_false c0]; simp
end
end Go.Proofs.Ytddheiloodfkdaa.K3
