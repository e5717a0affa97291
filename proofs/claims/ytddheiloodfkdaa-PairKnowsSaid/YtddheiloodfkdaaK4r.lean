/- Whether a rule holds of two spots, by the document's answer; plain. -/
import Derived.Test.YtddheiloodfkdaaQ26
import Derived.Test.YtddheiloodfkdaaK3
import Derived.Test.YtddheiloodfkdaaK2r
import Derived.Test.YtddheiloodfkdaaR1r
set_option linter.unusedVariables false
set_option linter.unusedSimpArgs false
namespace Go.Proofs.Ytddheiloodfkdaa.K4
open Go.RowKit Go.Proofs.YtddheiloodfkdaaW.PrintWords Go.Proofs.YtddheiloodfkdaaW.PrintLast Go.Proofs.YtddheiloodfkdaaW.PrintMore Go.Proofs.Ytddheiloodfkdaa.M Go.Proofs.Ytddheiloodfkdaa.Q Go.Proofs.Ytddheiloodfkdaa.W1 Go.Proofs.Ytddheiloodfkdaa.W3 Go.Proofs.Ytddheiloodfkdaa.K1 Go.Proofs.Ytddheiloodfkdaa.K2 Go.Proofs.Ytddheiloodfkdaa.R1 Go.Proofs.Ytddheiloodfkdaa.K3
section
variable {g0 g1 g2 kd n aw ad ap al ar bw bd bp bl br wl : Int}
theorem ref_Known_f (k : Int) : horariumref15_Known.f k = some (decide (KN k)) := by
  unfold horariumref15_Known.f
  by_cases h : k ≥ 1
  · rw [if_pos h]; exact congrArg some (decide_eq_decide.mpr (by unfold KN; omega))
  · rw [if_neg h, decide_eq_false (show ¬ KN k by unfold KN; omega)]
theorem ref_slots_in (ha : TM ap al) (hb : TM bp bl) : horariumref15_slots.f aw ad ap al bw bd bp bl = some (decide (bp ≤ ap ∧ ap + al ≤ bp + bl)) := by
  unfold TM at ha hb
  unfold horariumref15_slots.f
  rw [w64 (n := ap + al) (by omega) (by omega), w64 (n := bp + bl) (by omega) (by omega)]
  by_cases h : ap ≥ bp
  · rw [if_pos h]; exact congrArg some (decide_eq_decide.mpr (by omega))
  · rw [if_neg h, decide_eq_false (by omega)]
theorem ref_inside_f (h0 : 0 ≤ aw ∧ aw < 4294967296) (h1 : 0 ≤ bw ∧ bw < 4294967296) : horariumref15_inside.f aw bw = some (decide (AND aw bw = aw)) := by
  unfold horariumref15_inside.f
  rw [AND_u32 h0 h1]
  rfl
theorem or_dec {P Q : Prop} [Decidable P] [Decidable Q] : (if P then some true else some (decide Q)) = some (decide (P ∨ Q)) := by
  by_cases h : P <;> simp [h]
theorem times_ev (u0 : 0 ≤ aw ∧ aw < 4294967296) (u1 : 0 ≤ ad ∧ ad < 256) (u3 : -9223372036854775808 ≤ al ∧ al ≤ 9223372036854775807) (v0 : 0 ≤ bw ∧ bw < 4294967296) (v1 : 0 ≤ bd ∧ bd < 256) (v3 : -9223372036854775808 ≤ bl ∧ bl ≤ 9223372036854775807)
    (hk : KN kd) (c10 : kd ≠ 10) (c11 : kd ≠ 11) (ha : RT g0 g1 g2 aw ad ap al) (hb : RT g0 g1 g2 bw bd bp bl) :
    Ev (fun k => horariumref15_times.f k g0 g1 g2 kd n aw ad ap al bw bd bp bl wl) (TI g1 g2 kd n aw ad ap al bw bd bp bl wl) := by
  have hm := ref_Meet_f (ap := ap) (al := al) (bp := bp) (bl := bl) u0 u1 v0 v1
  have hs := ref_SameDay_f (ap := ap) (al := al) (bp := bp) (bl := bl) u0 u1 v0 v1
  have w0 : 0 ≤ ad % 4294967296 ∧ ad % 4294967296 < 4294967296 := by omega
  have w1 : 0 ≤ bd % 4294967296 ∧ bd % 4294967296 < 4294967296 := by omega
  have e0 : ad % 4294967296 = ad := by omega
  have e1 : bd % 4294967296 = bd := by omega
  have h4 := ref_inside_f w0 w1
  have h4' := ref_inside_f w1 w0
  rw [e0, e1] at h4 h4'
  rw [AND_comm] at h4'
  have h6 := ref_inside_f u0 v0
  have h6' := ref_inside_f v0 u0
  rw [AND_comm] at h6'
  have h5 := AND_u8 u1 v1
  have h7 := AND_u32 u0 v0
  have h2 := ref_slots_in (aw := aw) (ad := ad) (bw := bw) (bd := bd) ha.2.1 hb.2.1
  have h2' := ref_slots_in (aw := bw) (ad := bd) (bw := aw) (bd := ad) hb.2.1 ha.2.1
  have h14 := ref_Reach_f (ap := ap) (al := al) (bp := bp) (bl := bl) (wl := wl) u0 u1 v0 v1
  have f0 := ref_First_ev u0 u1 u3 ha (FST_FM u0 u1 ha)
  have f1 := ref_First_ev v0 v1 v3 hb (FST_FM v0 v1 hb)
  have ta := ha.2.1
  have tb := hb.2.1
  unfold TM at ta tb
  have q1 := Aside0.mk (w64 (n := ap + al) (by omega) (by omega))
  have q2 := Aside0.mk (w64 (n := bp + bl) (by omega) (by omega))
  have q3 := Aside0.mk (w64 (n := max (ap + al) (bp + bl) - min ap bp) (by omega) (by omega))
  unfold horariumref15_times.f TI
  simp only [q1.out, q2.out, mx_eq, mn_eq, q3.out]
  by_cases c9 : kd = 9
  · subst c9
    simp only [Int.reduceEq, if_false, if_true]
    exact Ev.bind hm (Ev.now _)
  by_cases c8 : kd = 8
  · subst c8
    simp only [Int.reduceEq, if_false, if_true]
    exact Ev.bind hm (Ev.now _)
  simp only [if_neg c9, if_neg c8]
  by_cases c1 : kd = 1
  · simp only [if_pos c1]
    rw [show decide (ap = bp) = (ap == bp) from rfl]
    exact Ev.now _
  by_cases c2 : kd = 2
  · simp only [if_neg c1, if_pos c2, h2, h2', Option.bind_some, ite_dec, or_dec, decide_eq_true_eq]
    exact Ev.now _
  by_cases c3 : kd = 3
  · simp only [if_neg c1, if_neg c2, if_pos c3, or_dec]
    exact Ev.now _
  simp only [if_neg c1, if_neg c2, if_neg c3]
  by_cases c4 : kd = 4
  · simp only [if_pos c4, e0, e1, h4, h4', Option.bind_some, ite_dec, or_dec, decide_eq_true_eq]
    exact Ev.now _
  by_cases c5 : kd = 5
  · simp only [if_neg c4, if_pos c5, h5]
    rw [show decide (AND ad bd = 0) = (AND ad bd == 0) from rfl]
    exact Ev.now _
  by_cases c6 : kd = 6
  · simp only [if_neg c4, if_neg c5, if_pos c6, h6, h6', Option.bind_some, ite_dec, or_dec, decide_eq_true_eq]
    exact Ev.now _
  simp only [if_neg c4, if_neg c5, if_neg c6]
  by_cases c7 : kd = 7
  · simp only [if_pos c7, h7]
    rw [show decide (AND aw bw = 0) = (AND aw bw == 0) from rfl]
    exact Ev.now _
  by_cases c12 : kd = 12
  · simp only [if_neg c7, if_pos c12]
    exact Ev.bind f0 (Ev.bind f1 (Ev.now _))
  by_cases c13 : kd = 13
  · simp only [if_neg c7, if_neg c12, if_pos c13]
    refine Ev.bind hs ?_
    simp only [ite_dec]
    by_cases h : SD aw ad ap al bw bd bp bl
    · simp only [if_pos h]
      rw [decide_eq_decide.mpr (show (¬ SD aw ad ap al bw bd bp bl ∨ max (ap + al) (bp + bl) - min ap bp ≤ n) ↔ max (ap + al) (bp + bl) - min ap bp ≤ n from ⟨fun h2 => h2.elim (fun h3 => absurd h h3) id, Or.inr⟩)]
      exact Ev.now _
    · simp only [if_neg h]
      rw [decide_eq_true (show (¬ SD aw ad ap al bw bd bp bl ∨ max (ap + al) (bp + bl) - min ap bp ≤ n) from Or.inl h)]
      exact Ev.now _
  have c14 : kd = 14 := by unfold KN at hk; omega
  simp only [if_neg c7, if_neg c12, if_neg c13, if_pos c14]
  exact Ev.bind h14 (Ev.now _)
theorem ref_Holds_ev (u0 : 0 ≤ aw ∧ aw < 4294967296) (u1 : 0 ≤ ad ∧ ad < 256) (u3 : -9223372036854775808 ≤ al ∧ al ≤ 9223372036854775807) (v0 : 0 ≤ bw ∧ bw < 4294967296) (v1 : 0 ≤ bd ∧ bd < 256) (v3 : -9223372036854775808 ≤ bl ∧ bl ≤ 9223372036854775807) :
    Ev (fun k => horariumref15_Holds.f k g0 g1 g2 kd n aw ad ap al ar bw bd bp bl br wl) (HB g0 g1 g2 kd n aw ad ap al ar bw bd bp bl br wl) := by
  unfold horariumref15_Holds.f
  simp only [ref_Known_f, Option.bind_some, ite_dec]
  by_cases hk : KN kd
  · simp only [if_pos hk]
    by_cases c10 : kd = 10
    · subst c10
      simp only [if_true]
      have e : HB g0 g1 g2 10 n aw ad ap al ar bw bd bp bl br wl = decide (ONE ar br) := by unfold HB; rw [if_neg (by decide), if_pos rfl]
      rw [e]
      by_cases h : ar ≥ 0
      · simp only [if_pos h]
        rw [show decide (ONE ar br) = (ar == br) from decide_eq_decide.mpr ⟨fun h2 => h2.2, fun h2 => ⟨h, h2⟩⟩]
        exact Ev.now _
      · simp only [if_neg h]
        rw [decide_eq_false (show ¬ ONE ar br from fun h2 => h h2.1)]
        exact Ev.now _
    by_cases c11 : kd = 11
    · subst c11
      simp only [if_neg c10, if_true]
      have e : HB g0 g1 g2 11 n aw ad ap al ar bw bd bp bl br wl = !decide (ONE ar br) := by unfold HB; rw [if_pos rfl]
      rw [e]
      by_cases h : ar < 0
      · simp only [if_pos h]
        rw [decide_eq_false (show ¬ ONE ar br from fun h2 => by have := h2.1; omega)]
        exact Ev.now _
      · simp only [if_neg h]
        rw [show decide (ONE ar br) = (ar == br) from decide_eq_decide.mpr ⟨fun h2 => h2.2, fun h2 => ⟨by omega, h2⟩⟩]
        exact Ev.now _
    simp only [if_neg c10, if_neg c11]
    refine Ev.bind (ref_Right_f u0 u1 u3) ?_
    simp only [ite_dec]
    by_cases ha : RT g0 g1 g2 aw ad ap al
    · simp only [if_pos ha]
      refine Ev.bind (ref_Right_f v0 v1 v3) ?_
      simp only [ite_dec]
      by_cases hb : RT g0 g1 g2 bw bd bp bl
      · simp only [if_pos hb]
        rw [HB_time hk c10 c11 ha hb]
        exact Ev.bind (times_ev u0 u1 u3 v0 v1 v3 hk c10 c11 ha hb) (Ev.now _)
      · simp only [if_neg hb]
        rw [HB_out c10 c11 (fun h => hb h.2.2)]
        exact Ev.now _
    · simp only [if_neg ha]
      rw [HB_out c10 c11 (fun h => ha h.2.1)]
      exact Ev.now _
  · simp only [if_neg hk]
    have c10 : kd ≠ 10 := by unfold KN at hk; omega
    have c11 : kd ≠ 11 := by unfold KN at hk; omega
    rw [HB_out c10 c11 (fun h => hk h.1)]
    exact Ev.now _
end
end Go.Proofs.Ytddheiloodfkdaa.K4
