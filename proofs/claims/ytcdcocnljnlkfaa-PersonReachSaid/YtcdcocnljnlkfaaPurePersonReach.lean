/- The law PersonReach, over numbers alone. -/
import Derived.Test.YtcdcocnljnlkfaaQ26
import Derived.Test.YtcdcocnljnlkfaaW5a
import Derived.Test.YtcdcocnljnlkfaaW6
set_option linter.unusedVariables false
set_option linter.unusedSimpArgs false
namespace Go.Proofs.Ytcdcocnljnlkfaa.Pure
open Go.RowKit Go.Proofs.YtcdcocnljnlkfaaW.PrintWords Go.Proofs.YtcdcocnljnlkfaaW.PrintLast Go.Proofs.YtcdcocnljnlkfaaW.PrintMore Go.Proofs.Ytcdcocnljnlkfaa.M Go.Proofs.Ytcdcocnljnlkfaa.Q Go.Proofs.Ytcdcocnljnlkfaa.W1 Go.Proofs.Ytcdcocnljnlkfaa.W3 Go.Proofs.Ytcdcocnljnlkfaa.W5 Go.Proofs.Ytcdcocnljnlkfaa.W6
theorem heads_ev : Ev (fun k => horariumlaw12_heads.f k) true := Ev.of (fun k => horariumlaw12_heads.mono k) (k := 60) (by decide +kernel)
section
variable {aw ad ap al bw bd bp bl wl : Int}
def RCH (aw ad ap al bw bd bp bl wl : Int) : Prop := ¬ MT aw ad ap al bw bd bp bl ∧ (SD aw ad ap al bw bd bp bl → max ap bp - min (ap + al) (bp + bl) ≥ wl)
instance : Decidable (RCH aw ad ap al bw bd bp bl wl) := inferInstanceAs (Decidable (_ ∧ _))
theorem Reach_f (u0 : 0 ≤ aw ∧ aw < 4294967296) (u1 : 0 ≤ ad ∧ ad < 256) (v0 : 0 ≤ bw ∧ bw < 4294967296) (v1 : 0 ≤ bd ∧ bd < 256) :
    person_Reach.f aw ad ap al bw bd bp bl wl = some (decide (RCH aw ad ap al bw bd bp bl wl)) := by
  unfold person_Reach.f
  rw [when_Meet_f u0 u1 v0 v1, when_Gap_f u0 u1 v0 v1]
  simp only [Option.bind_some, decide_eq_true_eq]
  by_cases hm : MT aw ad ap al bw bd bp bl
  · rw [if_pos hm, decide_eq_false (fun h => h.1 hm)]
  · rw [if_neg hm]
    by_cases hs : SD aw ad ap al bw bd bp bl
    · simp only [if_pos (show SD aw ad ap al bw bd bp bl ∧ ¬ MT aw ad ap al bw bd bp bl from ⟨hs, hm⟩), if_true]
      congr 1
      exact decide_eq_decide.mpr ⟨fun h => ⟨hm, fun _ => h⟩, fun h => h.2 hs⟩
    · simp only [if_neg (show ¬ (SD aw ad ap al bw bd bp bl ∧ ¬ MT aw ad ap al bw bd bp bl) from fun h => hs h.1), Bool.false_eq_true, if_false]
      rw [decide_eq_true (show RCH aw ad ap al bw bd bp bl wl from ⟨hm, fun h => absurd h hs⟩)]
theorem ref_Reach_f (u0 : 0 ≤ aw ∧ aw < 4294967296) (u1 : 0 ≤ ad ∧ ad < 256) (v0 : 0 ≤ bw ∧ bw < 4294967296) (v1 : 0 ≤ bd ∧ bd < 256) :
    Ev (fun k => horariumref12_Reach.f k aw ad ap al bw bd bp bl wl) (decide (RCH aw ad ap al bw bd bp bl wl)) := by
  unfold horariumref12_Reach.f
  refine Ev.bind (ref_Gap_f u0 u1 v0 v1) (Ev.bind (ref_Meet_f u0 u1 v0 v1) ?_)
  simp only [decide_eq_true_eq]
  by_cases hm : MT aw ad ap al bw bd bp bl
  · simp only [if_pos hm]
    rw [decide_eq_false (fun h => h.1 hm)]
    exact Ev.now _
  · simp only [if_neg hm]
    by_cases hs : SD aw ad ap al bw bd bp bl
    · simp only [if_pos (show SD aw ad ap al bw bd bp bl ∧ ¬ MT aw ad ap al bw bd bp bl from ⟨hs, hm⟩), if_true]
      rw [decide_eq_decide.mpr (show max ap bp - min (ap + al) (bp + bl) ≥ wl ↔ RCH aw ad ap al bw bd bp bl wl from ⟨fun h => ⟨hm, fun _ => h⟩, fun h => h.2 hs⟩)]
      exact Ev.now _
    · simp only [if_neg (show ¬ (SD aw ad ap al bw bd bp bl ∧ ¬ MT aw ad ap al bw bd bp bl) from fun h => hs h.1), Bool.false_eq_true, if_false]
      rw [decide_eq_true (show RCH aw ad ap al bw bd bp bl wl from ⟨hm, fun h => absurd h hs⟩)]
      exact Ev.now _
theorem RCH_comm : RCH aw ad ap al bw bd bp bl wl ↔ RCH bw bd bp bl aw ad ap al wl := by
  unfold RCH
  rw [MT_comm, SD_comm, Int.max_comm, Int.min_comm]
theorem RCH_zero : RCH aw ad ap al bw bd bp bl 0 ↔ ¬ MT aw ad ap al bw bd bp bl := by
  unfold RCH
  constructor
  · exact fun h => h.1
  · refine fun h => ⟨h, fun hs => ?_⟩
    have : ¬ (ap < bp + bl ∧ bp < ap + al) := fun h2 => h ⟨hs, h2⟩
    have h3 := hs.1
    have h4 := hs.2.1
    unfold TM at h3 h4
    omega
theorem RCH_less (h : RCH aw ad ap al bw bd bp bl wl) : RCH aw ad ap al bw bd bp bl (mn wl 0) := by
  refine ⟨h.1, fun hs => ?_⟩
  have := h.2 hs
  rw [mn_eq]
  omega
end
theorem PersonReach : ∀ (a0_0 : Int) (a0_1 : Int) (a0_2 : Int) (a0_3 : Int) (a1_0 : Int) (a1_1 : Int) (a1_2 : Int) (a1_3 : Int) (a2 : Int), (Lit.int .u32 a0_0).wf = true → (Lit.int .u8 a0_1).wf = true → (Lit.int .i64 a0_2).wf = true → (Lit.int .i64 a0_3).wf = true → (Lit.int .u32 a1_0).wf = true → (Lit.int .u8 a1_1).wf = true → (Lit.int .i64 a1_2).wf = true → (Lit.int .i64 a1_3).wf = true → (Lit.int .i64 a2).wf = true → ∃ k, horariumlaw12_PersonReach.f k a0_0 a0_1 a0_2 a0_3 a1_0 a1_1 a1_2 a1_3 a2 = some true := by
  intro aw ad ap al bw bd bp bl wl u0 u1 _ _ v0 v1 _ _ _
  replace u0 := wf_u32 u0
  replace u1 := wf_u8 u1
  replace v0 := wf_u32 v0
  replace v1 := wf_u8 v1
  refine Ev.rounds ?_
  unfold horariumlaw12_PersonReach.f
  simp only [Reach_f u0 u1 v0 v1, Reach_f v0 v1 u0 u1, Option.bind_some, ← RCH_comm (aw := aw) (ad := ad) (ap := ap) (al := al) (bw := bw) (bd := bd) (bp := bp) (bl := bl)]
  refine Ev.bind (ref_Reach_f u0 u1 v0 v1) ?_
  simp only [bne_self_eq_false, Bool.false_eq_true, if_false]
  refine Ev.bind (ref_Meet_f u0 u1 v0 v1) ?_
  have h0 : (decide (RCH aw ad ap al bw bd bp bl 0) == !decide (MT aw ad ap al bw bd bp bl)) = true := by
    have hz := RCH_zero (aw := aw) (ad := ad) (ap := ap) (al := al) (bw := bw) (bd := bd) (bp := bp) (bl := bl)
    by_cases h : MT aw ad ap al bw bd bp bl
    · rw [decide_eq_false (fun h2 => hz.mp h2 h), decide_eq_true h]; rfl
    · rw [decide_eq_true (hz.mpr h), decide_eq_false h]; rfl
  simp only [h0, if_true, decide_eq_true_eq]
  by_cases h : RCH aw ad ap al bw bd bp bl wl
  · simp only [if_pos h, if_pos (RCH_less h)]
    exact Ev.bind heads_ev (Ev.now _)
  · simp only [if_neg h]
    exact Ev.bind heads_ev (Ev.now _)
end Go.Proofs.Ytcdcocnljnlkfaa.Pure
