/- Whether a rule holds of two spots, by package pair; plain. -/
import Derived.Test.YtddheiloodfkdaaQ8
import Derived.Test.YtddheiloodfkdaaK3
set_option linter.unusedVariables false
set_option linter.unusedSimpArgs false
namespace Go.Proofs.Ytddheiloodfkdaa.K4
open Go.RowKit Go.Proofs.YtddheiloodfkdaaW.PrintWords Go.Proofs.YtddheiloodfkdaaW.PrintLast Go.Proofs.YtddheiloodfkdaaW.PrintMore Go.Proofs.Ytddheiloodfkdaa.M Go.Proofs.Ytddheiloodfkdaa.Q Go.Proofs.Ytddheiloodfkdaa.W1 Go.Proofs.Ytddheiloodfkdaa.W3 Go.Proofs.Ytddheiloodfkdaa.K1 Go.Proofs.Ytddheiloodfkdaa.K2 Go.Proofs.Ytddheiloodfkdaa.R1 Go.Proofs.Ytddheiloodfkdaa.K3
section
variable {g0 g1 g2 kd n aw ad ap al ar bw bd bp bl br wl : Int}
theorem slots_ev : Ev (fun k => pair_slots.f k aw ad ap al bw bd bp bl) (decide ((bp ≤ ap ∧ wrap64 (ap + al) ≤ wrap64 (bp + bl)) ∨ (ap ≤ bp ∧ wrap64 (bp + bl) ≤ wrap64 (ap + al))), decide (ap < wrap64 (bp + bl) ∧ bp < wrap64 (ap + al))) := by
  have e : ∀ k, pair_slots.f k aw ad ap al bw bd bp bl = pair_slots.j0 k (wrap64 (ap + al)) (wrap64 (bp + bl)) (decide ((bp ≤ ap ∧ wrap64 (ap + al) ≤ wrap64 (bp + bl)) ∨ (ap ≤ bp ∧ wrap64 (bp + bl) ≤ wrap64 (ap + al)))) aw ad ap al bw bd bp bl := by
    intro k
    unfold pair_slots.f
    generalize wrap64 (ap + al) = x
    generalize wrap64 (bp + bl) = y
    repeat' split
    all_goals congr 1
    all_goals first
      | exact (decide_eq_true (by omega)).symm
      | exact (decide_eq_false (by omega)).symm
      | exact decide_eq_decide.mpr (by omega)
  refine Ev.congr e (up ?_)
  simp only [pair_slots.j0]
  by_cases h : ap < wrap64 (bp + bl)
  · simp only [if_pos h, h, true_and]; exact Ev.now _
  · simp only [if_neg h, h, false_and, decide_false]; exact Ev.now _
theorem inside_f (h0 : 0 ≤ aw ∧ aw < 4294967296) (h1 : 0 ≤ bw ∧ bw < 4294967296) : pair_inside.f aw bw = some (decide (AND aw bw = aw ∨ AND aw bw = bw)) := by
  unfold pair_inside.f
  rw [AND_u32 h0 h1]
  by_cases h : AND aw bw = aw
  · rw [if_pos h, decide_eq_true (Or.inl h)]
  · rw [if_neg h]
    by_cases h2 : AND aw bw = bw
    · rw [decide_eq_true (Or.inr h2), beq_iff_eq.mpr h2]
    · rw [decide_eq_false (fun h3 => h3.elim h h2), beq_eq_false_iff_ne.mpr h2]
theorem short_f (u0 : 0 ≤ aw ∧ aw < 4294967296) (u1 : 0 ≤ ad ∧ ad < 256) (v0 : 0 ≤ bw ∧ bw < 4294967296) (v1 : 0 ≤ bd ∧ bd < 256) (ha : TM ap al) (hb : TM bp bl) :
    pair_short.f aw ad ap al bw bd bp bl n = some (decide (¬ SD aw ad ap al bw bd bp bl ∨ max (ap + al) (bp + bl) - min ap bp ≤ n)) := by
  unfold TM at ha hb
  unfold pair_short.f
  rw [when_SameDay_f u0 u1 v0 v1, Option.bind_some, ite_dec, w64 (n := ap + al) (by omega) (by omega), w64 (n := bp + bl) (by omega) (by omega), mx_eq, mn_eq, w64 (n := max (ap + al) (bp + bl) - min ap bp) (by omega) (by omega)]
  by_cases h : SD aw ad ap al bw bd bp bl
  · rw [if_pos h]
    exact congrArg some (decide_eq_decide.mpr ⟨fun h2 => Or.inr h2, fun h2 => h2.elim (fun h3 => absurd h h3) id⟩)
  · rw [if_neg h, decide_eq_true (Or.inl h)]
theorem ahead_ev (u0 : 0 ≤ aw ∧ aw < 4294967296) (u1 : 0 ≤ ad ∧ ad < 256) (v0 : 0 ≤ bw ∧ bw < 4294967296) (v1 : 0 ≤ bd ∧ bd < 256) (ha : RT g0 g1 g2 aw ad ap al) (hb : RT g0 g1 g2 bw bd bp bl) :
    Ev (fun k => pair_ahead.f k g0 g1 g2 aw ad ap al bw bd bp bl) (decide (FM g1 g2 aw ad ap + al - 1 < FM g1 g2 bw bd bp)) := by
  unfold pair_ahead.f
  exact Ev.bind (when_First_ev u0 u1 ha (FST_FM u0 u1 ha)) (Ev.bind (when_First_ev v0 v1 hb (FST_FM v0 v1 hb)) (Ev.now _))
theorem j1_ev (u0 : 0 ≤ aw ∧ aw < 4294967296) (u1 : 0 ≤ ad ∧ ad < 256) (v0 : 0 ≤ bw ∧ bw < 4294967296) (v1 : 0 ≤ bd ∧ bd < 256) (hT : KN kd → kd ≠ 10 → kd ≠ 11 → RT g0 g1 g2 aw ad ap al ∧ RT g0 g1 g2 bw bd bp bl) :
    Ev (fun k => pair_Holds.j1 k kd n wl (decide (ONE ar br)) false g0 g1 g2 aw ad ap al ar bw bd bp bl br) (HB g0 g1 g2 kd n aw ad ap al ar bw bd bp bl br wl) := by
  refine up ?_
  simp only [pair_Holds.j1, Bool.false_eq_true, if_false]
  refine Ev.bind slots_ev ?_
  by_cases c11 : kd = 11
  · subst c11
    simp only [if_true]
    refine up ?_
    simp only [pair_Holds.j2]
    have e : HB g0 g1 g2 11 n aw ad ap al ar bw bd bp bl br wl = (decide (ONE ar br) != true) := by unfold HB; rw [if_pos rfl]; cases decide (ONE ar br) <;> rfl
    rw [e]
    exact Ev.now _
  by_cases c10 : kd = 10
  · subst c10
    simp only [if_neg c11, if_true]
    refine up ?_
    simp only [pair_Holds.j2]
    have e : HB g0 g1 g2 10 n aw ad ap al ar bw bd bp bl br wl = (decide (ONE ar br) != false) := by unfold HB; rw [if_neg c11, if_pos rfl]; cases decide (ONE ar br) <;> rfl
    rw [e]
    exact Ev.now _
  simp only [if_neg c11, if_neg c10]
  by_cases hk : KN kd
  · obtain ⟨ha, hb⟩ := hT hk c10 c11
    rw [HB_time hk c10 c11 ha hb]
    have ta := ha.2.1
    have tb := hb.2.1
    unfold TM at ta tb
    have q1 := Aside0.mk (w64 (n := ap + al) (by omega) (by omega))
    have q2 := Aside0.mk (w64 (n := bp + bl) (by omega) (by omega))
    simp only [q1.out, q2.out]
    have hm := when_Meet_f (ap := ap) (al := al) (bp := bp) (bl := bl) u0 u1 v0 v1
    have w0 : 0 ≤ ad % 4294967296 ∧ ad % 4294967296 < 4294967296 := by omega
    have w1 : 0 ≤ bd % 4294967296 ∧ bd % 4294967296 < 4294967296 := by omega
    have e0 : ad % 4294967296 = ad := by omega
    have e1 : bd % 4294967296 = bd := by omega
    have h4 := inside_f w0 w1
    rw [e0, e1] at h4
    have h6 := inside_f u0 v0
    have h5 := AND_u8 u1 v1
    have h7 := AND_u32 u0 v0
    have h13 := short_f (n := n) u0 u1 v0 v1 ha.2.1 hb.2.1
    have h14 := Reach_f (ap := ap) (al := al) (bp := bp) (bl := bl) (wl := wl) u0 u1 v0 v1
    have h12 := ahead_ev u0 u1 v0 v1 ha hb
    unfold TI
    by_cases c9 : kd = 9
    · simp only [if_pos c9]
      refine up ?_
      simp only [pair_Holds.j3, hm, Option.bind_some]
      rw [show (!decide (MT aw ad ap al bw bd bp bl)) = (decide (MT aw ad ap al bw bd bp bl) != true) by cases decide (MT aw ad ap al bw bd bp bl) <;> rfl]
      exact Ev.now _
    by_cases c8 : kd = 8
    · simp only [if_neg c9, if_pos c8]
      refine up ?_
      simp only [pair_Holds.j3, hm, Option.bind_some, Bool.bne_false]
      exact Ev.now _
    simp only [if_neg c9, if_neg c8]
    by_cases c1 : kd = 1
    · simp only [if_pos c1]
      rw [show decide (ap = bp) = (ap == bp) from rfl]
      exact Ev.now _
    by_cases c2 : kd = 2
    · simp only [if_neg c1, if_pos c2]
      exact Ev.now _
    by_cases c3 : kd = 3
    · simp only [if_neg c1, if_neg c2, if_pos c3]
      rw [show decide (ap + al ≤ bp ∨ bp + bl ≤ ap) = !decide (ap < bp + bl ∧ bp < ap + al) by rw [← decide_not]; exact decide_eq_decide.mpr (by omega)]
      exact Ev.now _
    simp only [if_neg c1, if_neg c2, if_neg c3]
    by_cases c4 : kd = 4
    · simp only [if_pos c4, e0, e1, h4, Option.bind_some]
      exact Ev.now _
    by_cases c5 : kd = 5
    · simp only [if_neg c4, if_pos c5, h5]
      rw [show decide (AND ad bd = 0) = (AND ad bd == 0) from rfl]
      exact Ev.now _
    by_cases c6 : kd = 6
    · simp only [if_neg c4, if_neg c5, if_pos c6, h6, Option.bind_some]
      exact Ev.now _
    simp only [if_neg c4, if_neg c5, if_neg c6]
    by_cases c7 : kd = 7
    · simp only [if_pos c7, h7]
      rw [show decide (AND aw bw = 0) = (AND aw bw == 0) from rfl]
      exact Ev.now _
    by_cases c12 : kd = 12
    · simp only [if_neg c7, if_pos c12]
      exact Ev.bind h12 (Ev.now _)
    by_cases c13 : kd = 13
    · simp only [if_neg c7, if_neg c12, if_pos c13, h13, Option.bind_some]
      exact Ev.now _
    have c14 : kd = 14 := by unfold KN at hk; omega
    simp only [if_neg c7, if_neg c12, if_neg c13, if_pos c14, h14, Option.bind_some]
    exact Ev.now _
  · rw [HB_out c10 c11 (fun h => hk h.1)]
    unfold KN at hk
    simp only [if_neg (show ¬ kd = 9 by omega), if_neg (show ¬ kd = 8 by omega), if_neg (show ¬ kd = 1 by omega), if_neg (show ¬ kd = 2 by omega), if_neg (show ¬ kd = 3 by omega), if_neg (show ¬ kd = 4 by omega), if_neg (show ¬ kd = 5 by omega), if_neg (show ¬ kd = 6 by omega), if_neg (show ¬ kd = 7 by omega), if_neg (show ¬ kd = 12 by omega), if_neg (show ¬ kd = 13 by omega), if_neg (show ¬ kd = 14 by omega)]
    exact Ev.now _
theorem Holds_ev (u0 : 0 ≤ aw ∧ aw < 4294967296) (u1 : 0 ≤ ad ∧ ad < 256) (v0 : 0 ≤ bw ∧ bw < 4294967296) (v1 : 0 ≤ bd ∧ bd < 256) :
    Ev (fun k => pair_Holds.f k g0 g1 g2 kd n aw ad ap al ar bw bd bp bl br wl) (HB g0 g1 g2 kd n aw ad ap al ar bw bd bp bl br wl) := by
  have e : ∀ k, pair_Holds.f k g0 g1 g2 kd n aw ad ap al ar bw bd bp bl br wl = pair_Holds.j0 k kd n wl (decide (ONE ar br)) g0 g1 g2 aw ad ap al ar bw bd bp bl br := by
    intro k
    unfold pair_Holds.f
    by_cases h : ar ≥ 0
    · rw [if_pos h]
      congr 1
      by_cases h2 : ar = br
      · rw [decide_eq_true (show ONE ar br from ⟨h, h2⟩)]; exact beq_iff_eq.mpr h2
      · rw [decide_eq_false (show ¬ ONE ar br from fun h3 => h2 h3.2)]; exact beq_eq_false_iff_ne.mpr h2
    · rw [if_neg h, decide_eq_false (show ¬ ONE ar br from fun h3 => h h3.1)]
  refine Ev.congr e (up ?_)
  simp only [pair_Holds.j0]
  refine Ev.bind (Needs_ev kd) ?_
  simp only [when_Right_f u0 u1, when_Right_f v0 v1, Option.bind_some, ite_dec]
  by_cases hk : KN kd ∧ kd ≠ 10 ∧ kd ≠ 11
  · simp only [if_pos hk]
    by_cases ha : RT g0 g1 g2 aw ad ap al
    · simp only [if_pos ha]
      by_cases hb : RT g0 g1 g2 bw bd bp bl
      · simp only [decide_eq_true hb, Bool.not_true]
        exact j1_ev u0 u1 v0 v1 (fun _ _ _ => ⟨ha, hb⟩)
      · simp only [decide_eq_false hb, Bool.not_false]
        rw [HB_out hk.2.1 hk.2.2 (fun h => hb h.2.2)]
        refine up ?_
        simp only [pair_Holds.j1, if_true]
        exact Ev.now _
    · simp only [if_neg ha]
      rw [HB_out hk.2.1 hk.2.2 (fun h => ha h.2.1)]
      refine up ?_
      simp only [pair_Holds.j1, if_true]
      exact Ev.now _
  · simp only [if_neg hk]
    exact j1_ev u0 u1 v0 v1 (fun h h0 h1 => absurd ⟨h, h0, h1⟩ hk)
end
end Go.Proofs.Ytddheiloodfkdaa.K4
