/- A room's times by the document's answer; plain. -/
import Derived.Test.YtcdcocnljnlkfaaQ13
import Derived.Test.YtcdcocnljnlkfaaQ15
import Derived.Test.YtcdcocnljnlkfaaQ22
import Derived.Test.YtcdcocnljnlkfaaL3a
import Derived.Test.YtcdcocnljnlkfaaW3
set_option linter.unusedVariables false
set_option linter.unusedSimpArgs false
namespace Go.Proofs.Ytcdcocnljnlkfaa.L3
open Go.RowKit Go.Proofs.YtcdcocnljnlkfaaW.PrintWords Go.Proofs.Ytcdcocnljnlkfaa.M Go.Proofs.Ytcdcocnljnlkfaa.Q Go.Proofs.Ytcdcocnljnlkfaa.L1 Go.Proofs.Ytcdcocnljnlkfaa.L2 Go.Proofs.Ytcdcocnljnlkfaa.W1 Go.Proofs.Ytcdcocnljnlkfaa.W2 Go.Proofs.Ytcdcocnljnlkfaa.W3
section
variable {l : List S27} {w0 w1 w2 w3 g0 g1 g2 : Int}
theorem ref_Meets_f (hm : l.length < 1000000) (hl : GW l) (v0 : 0 ≤ w0 ∧ w0 < 4294967296) (v1 : 0 ≤ w1 ∧ w1 < 256) : Ev (fun k => horariumref11_Meets.f k l w0 w1 w2 w3) (SHB l w0 w1 w2 w3) := by
  unfold horariumref11_Meets.f
  have meet := fun (i : Nat) (hi : i < l.length) => ref_Meet_f (ap := (rd_T27 l i).f2) (al := (rd_T27 l i).f3) (bp := w2) (bl := w3) (hl _ (rd_mem l i hi)).1 (hl _ (rd_mem l i hi)).2.1 v0 v1
  have := loop_any (L := fun k i => horariumref11_Meets.l0 k l i w0 w1 w2 w3) (n := l.length) (P := fun i => MTx w0 w1 w2 w3 (rd_T27 l i)) (re := false) (rb := true) ?_ ?_ ?_
  · rw [all_rd (P := fun x => ¬ MTx w0 w1 w2 w3 x), ← SHB_false] at this
    cases h : SHB l w0 w1 w2 w3 with
    | false => exact this.1 h
    | true => exact this.2 (by rw [h]; decide)
  · intro i hi hp r h
    have hw := w64s (n := i) (by omega)
    refine Ev.step (f := fun k => (horariumref09_Meet.f k ((rd_T27 l i).f0) ((rd_T27 l i).f1) ((rd_T27 l i).f2) ((rd_T27 l i).f3) w0 w1 w2 w3).bind fun t => if t = true then some true else horariumref11_Meets.l0 k l ((i + 1 : Nat) : Int) w0 w1 w2 w3) (fun k => ?_) (Ev.bind (meet i hi) ?_)
    · simp only [horariumref11_Meets.l0]
      rw [if_pos (by omega), if_pos (by omega), hw]
    · simp only [decide_eq_true_eq, if_neg hp]
      exact h
  · intro i hi hp
    have hw := w64s (n := i) (by omega)
    refine Ev.step (f := fun k => (horariumref09_Meet.f k ((rd_T27 l i).f0) ((rd_T27 l i).f1) ((rd_T27 l i).f2) ((rd_T27 l i).f3) w0 w1 w2 w3).bind fun t => if t = true then some true else horariumref11_Meets.l0 k l ((i + 1 : Nat) : Int) w0 w1 w2 w3) (fun k => ?_) (Ev.bind (meet i hi) ?_)
    · simp only [horariumref11_Meets.l0]
      rw [if_pos (by omega), if_pos (by omega), hw]
    · simp only [decide_eq_true_eq, if_pos hp]
      exact Ev.now _
  · intro _
    refine Ev.step (fun k => ?_) (Ev.now false)
    simp only [horariumref11_Meets.l0]
    rw [if_neg (by omega)]
theorem ref_Name_f (n : ByteArray) : horariumref11_Name.f n = some (decide (NM n)) := by
  unfold horariumref11_Name.f
  by_cases h : (n.size : Int) ≥ 1
  · rw [if_pos h]
    congr 1
    exact decide_eq_decide.mpr (by unfold NM; omega)
  · rw [if_neg h, decide_eq_false (by unfold NM; omega)]
theorem ref_Whens_f {mx : Int} (hm : l.length < 1000000) (hl : GW l) : Ev (fun k => horariumref11_Whens.f k g0 g1 g2 l mx) (decide (ALB l g0 g1 g2 = true ∧ (l.length : Int) ≤ mx)) := by
  unfold horariumref11_Whens.f
  have right := fun (i : Nat) (hi : i < l.length) => ref_Right_f (g0 := g0) (g1 := g1) (g2 := g2) (w2 := (rd_T27 l i).f2) (hl _ (rd_mem l i hi)).1 (hl _ (rd_mem l i hi)).2.1 (hl _ (rd_mem l i hi)).2.2.2
  have := loop_all (L := fun k i => horariumref11_Whens.l0 k l mx i g0 g1 g2) (n := l.length) (P := fun i => RTx g0 g1 g2 (rd_T27 l i)) (re := decide ((l.length : Int) ≤ mx)) (rb := false) ?_ ?_ ?_
  · rw [all_rd (P := fun x => RTx g0 g1 g2 x), ← ALB_true] at this
    by_cases h : ALB l g0 g1 g2 = true
    · have e := this.1 h
      simp only [h, true_and]
      exact e
    · have e := this.2 h
      simp only [h, false_and, decide_false]
      exact e
  · intro i hi hp r h
    have hw := w64s (n := i) (by omega)
    refine Ev.step (f := fun k => (horariumref09_Right.f k g0 g1 g2 ((rd_T27 l i).f0) ((rd_T27 l i).f1) ((rd_T27 l i).f2) ((rd_T27 l i).f3)).bind fun t => if t = true then horariumref11_Whens.l0 k l mx ((i + 1 : Nat) : Int) g0 g1 g2 else some false) (fun k => ?_) (Ev.bind (right i hi) ?_)
    · simp only [horariumref11_Whens.l0]
      rw [if_pos (by omega), if_pos (by omega), hw]
    · simp only [decide_eq_true_eq, if_pos hp]
      exact h
  · intro i hi hp
    have hw := w64s (n := i) (by omega)
    refine Ev.step (f := fun k => (horariumref09_Right.f k g0 g1 g2 ((rd_T27 l i).f0) ((rd_T27 l i).f1) ((rd_T27 l i).f2) ((rd_T27 l i).f3)).bind fun t => if t = true then horariumref11_Whens.l0 k l mx ((i + 1 : Nat) : Int) g0 g1 g2 else some false) (fun k => ?_) (Ev.bind (right i hi) ?_)
    · simp only [horariumref11_Whens.l0]
      rw [if_pos (by omega), if_pos (by omega), hw]
    · simp only [decide_eq_true_eq, if_neg hp]
      exact Ev.now _
  · intro _
    refine Ev.step (fun k => ?_) (Ev.now _)
    simp only [horariumref11_Whens.l0]
    rw [if_neg (by omega)]
end
end Go.Proofs.Ytcdcocnljnlkfaa.L3
