/- The law PersonTells, over numbers alone. -/
import Derived.Test.YtcdcocnljnlkfaaQ23
import Derived.Test.YtcdcocnljnlkfaaEPRight
import Derived.Test.YtcdcocnljnlkfaaEAway
import Derived.Test.YtcdcocnljnlkfaaL3
import Derived.Test.YtcdcocnljnlkfaaL4r
import Derived.Test.YtcdcocnljnlkfaaW4
set_option linter.unusedVariables false
set_option linter.unusedSimpArgs false
namespace Go.Proofs.Ytcdcocnljnlkfaa.Pure
open Go.RowKit Go.Proofs.YtcdcocnljnlkfaaW.PrintWords Go.Proofs.YtcdcocnljnlkfaaW.PrintLast Go.Proofs.YtcdcocnljnlkfaaW.PrintMore Go.Proofs.Ytcdcocnljnlkfaa.M Go.Proofs.Ytcdcocnljnlkfaa.Q Go.Proofs.Ytcdcocnljnlkfaa.L1 Go.Proofs.Ytcdcocnljnlkfaa.L2 Go.Proofs.Ytcdcocnljnlkfaa.L3 Go.Proofs.Ytcdcocnljnlkfaa.L4 Go.Proofs.Ytcdcocnljnlkfaa.W1 Go.Proofs.Ytcdcocnljnlkfaa.W2 Go.Proofs.Ytcdcocnljnlkfaa.W3 Go.Proofs.Ytcdcocnljnlkfaa.W4
theorem heads_ev : Ev (fun k => horariumlaw12_heads.f k) true := Ev.of (fun k => horariumlaw12_heads.mono k) (k := 60) (by decide +kernel)
section
variable {l : List S27} {n : ByteArray} {w0 w1 w2 w3 g0 g1 g2 : Int}
theorem person_Away_f (hl : GW l) (v0 : 0 ≤ w0 ∧ w0 < 4294967296) (v1 : 0 ≤ w1 ∧ w1 < 256) : person_Away.f n l w0 w1 w2 w3 = some (SHB l w0 w1 w2 w3) := by
  unfold person_Away.f
  obtain ⟨j, e, hj⟩ := idxf_any (q := meetq w0 w1 w2 w3) (p := MTx w0 w1 w2 w3) l 0 (by omega) fun x hx => when_Meet_f (hl x hx).1 (hl x hx).2.1 v0 v1
  rw [e, Option.bind_some]
  congr 1
  rw [← SHB_false, Bool.not_eq_false] at hj
  exact Bool.eq_iff_iff.mpr (by rw [decide_eq_true_eq]; exact hj)
theorem person_Right_f (hl : GW l) : person_Right.f g0 g1 g2 n l = some (decide (RRM g0 g1 g2 n 0 l)) := by
  have h := room_Right_f (g0 := g0) (g1 := g1) (g2 := g2) (n := n) (s := 0) (r2 := 0) hl
  rw [← h]
  unfold person_Right.f room_Right.f
  simp only [if_pos (show (0 : Int) ≤ 0 by decide), if_pos (show (0 : Int) ≤ 10000 by decide)]
theorem ref_Right12_f (hm : l.length < 1000000) (hl : GW l) : Ev (fun k => horariumref12_Right.f k g0 g1 g2 n l) (decide (RRM g0 g1 g2 n 0 l)) := by
  unfold horariumref12_Right.f
  simp only [ref_RightGrid_f, Option.bind_some, ref_Name_f, decide_eq_true_eq]
  by_cases h1 : RG g0 g1 g2
  · by_cases h2 : NM n
    · simp only [if_pos h1, if_pos h2]
      refine Ev.bind (ref_Whens_f hm hl) ?_
      have : (ALB l g0 g1 g2 = true ∧ (l.length : Int) ≤ 16) ↔ RRM g0 g1 g2 n 0 l := by
        unfold RRM
        constructor
        · exact fun h => ⟨h1, h2, by decide, by decide, by omega, h.1⟩
        · exact fun h => ⟨h.2.2.2.2.2, by have := h.2.2.2.2.1; omega⟩
      simp only [this]
      exact Ev.now _
    · simp only [if_pos h1, if_neg h2]
      rw [decide_eq_false (fun h => h2 h.2.1)]
      exact Ev.now _
  · simp only [if_neg h1]
    rw [decide_eq_false (fun h => h1 h.1)]
    exact Ev.now _
theorem person_Free_f (hl : GW l) : Ev (fun k => person_Free.f k g0 g1 g2 n l) (if RRM g0 g1 g2 n 0 l then OPN l g0 g1 g2 else []) := by
  unfold person_Free.f
  simp only [person_Right_f hl, Option.bind_some, decide_eq_true_eq]
  by_cases h : RRM g0 g1 g2 n 0 l
  · simp only [if_pos h]
    have hO := room_Open_f (g0 := g0) (g1 := g1) (g2 := g2) (n := n) (s := 0) (r2 := 0) hl
    rw [if_pos h] at hO
    exact Ev.bind hO (Ev.now _)
  · simp only [if_neg h]
    exact Ev.now _
end
theorem PersonTells : ∀ (a0_0 : Int) (a0_1 : Int) (a0_2 : Int) (a1_0 : ByteArray) (l1_1 : List (S27)) (a2_0 : Int) (a2_1 : Int) (a2_2 : Int) (a2_3 : Int), (Lit.int .i64 a0_0).wf = true → (Lit.int .i64 a0_1).wf = true → (Lit.int .i64 a0_2).wf = true → a1_0.size ≤ maxLen → (∀ x ∈ l1_1, ((Lit.int .u32 x.f0).wf = true ∧ (Lit.int .u8 x.f1).wf = true ∧ (Lit.int .i64 x.f2).wf = true ∧ (Lit.int .i64 x.f3).wf = true)) → (Lit.int .u32 a2_0).wf = true → (Lit.int .u8 a2_1).wf = true → (Lit.int .i64 a2_2).wf = true → (Lit.int .i64 a2_3).wf = true → ∃ k, horariumlaw12_PersonTells.f k a0_0 a0_1 a0_2 a1_0 l1_1 a2_0 a2_1 a2_2 a2_3 = some true := by
  intro g0 g1 g2 n l w0 w1 w2 w3 _ _ _ _ hl v0 v1 _ _
  replace hl := GW_of hl
  replace v0 := wf_u32 v0
  replace v1 := wf_u8 v1
  refine Ev.rounds ?_
  unfold horariumlaw12_PersonTells.f horariumlaw12_few.f
  simp only [Option.bind_some, decide_eq_true_eq]
  by_cases h30 : (l.length : Int) ≤ 30
  · simp only [if_pos h30]
    have hm : l.length < 1000000 := by omega
    have hR := ref_Right12_f (g0 := g0) (g1 := g1) (g2 := g2) (n := n) hm hl
    have hO := person_Free_f (g0 := g0) (g1 := g1) (g2 := g2) (n := n) hl
    have hME := ref_Meets_f (w2 := w2) (w3 := w3) hm hl v0 v1
    refine Ev.bind hR ?_
    simp only [person_Right_f hl, person_Away_f hl v0 v1, Option.bind_some, decide_eq_true_eq]
    by_cases h : RRM g0 g1 g2 n 0 l
    · simp only [if_pos h]
      rw [if_pos h] at hO
      refine Ev.bind (ref_Open_f hm hl h.1 (ALB_true.mp h.2.2.2.2.2)) (Ev.bind hR ?_)
      simp only [beq_self_eq_true, if_true]
      refine Ev.bind hME ?_
      simp only [beq_self_eq_true, if_true]
      refine Ev.bind hO (Ev.bind (Ints_same (Nat.le_trans (OPN_len h.1) (by decide))) ?_)
      simp only [if_true]
      exact Ev.bind heads_ev (Ev.now _)
    · simp only [if_neg h]
      rw [if_neg h] at hO
      refine Ev.bind hR ?_
      simp only [beq_self_eq_true, if_true]
      refine Ev.bind hME ?_
      simp only [beq_self_eq_true, if_true]
      refine Ev.bind hO (Ev.bind (Ints_same (by decide)) ?_)
      simp only [if_true]
      exact Ev.bind heads_ev (Ev.now _)
  · simp only [if_neg h30]
    exact Ev.bind heads_ev (Ev.now _)
end Go.Proofs.Ytcdcocnljnlkfaa.Pure
