/- Whether a rule can't hold any more, by the document's answer; plain. -/
import Derived.Test.YtddheiloodfkdaaQ29
import Derived.Test.YtddheiloodfkdaaK4r
import Derived.Test.YtddheiloodfkdaaK5s
set_option linter.unusedVariables false
set_option linter.unusedSimpArgs false
namespace Go.Proofs.Ytddheiloodfkdaa.K5
open Go.RowKit Go.Proofs.YtddheiloodfkdaaW.PrintWords Go.Proofs.YtddheiloodfkdaaW.PrintLast Go.Proofs.YtddheiloodfkdaaW.PrintMore Go.Proofs.Ytddheiloodfkdaa.M Go.Proofs.Ytddheiloodfkdaa.Q Go.Proofs.Ytddheiloodfkdaa.W1 Go.Proofs.Ytddheiloodfkdaa.W3 Go.Proofs.Ytddheiloodfkdaa.K1 Go.Proofs.Ytddheiloodfkdaa.K2 Go.Proofs.Ytddheiloodfkdaa.R1 Go.Proofs.Ytddheiloodfkdaa.K3 Go.Proofs.Ytddheiloodfkdaa.K4
section
variable {g0 g1 g2 kd n aw ad ap al ar bw bd bp bl br wl : Int}
theorem ref_rooms_f (k : Int) : horariumref15_rooms.f k = some (decide (k = 10 ∨ k = 11)) := by
  unfold horariumref15_rooms.f
  by_cases h : k = 10
  · rw [if_pos h, decide_eq_true (Or.inl h)]
  · rw [if_neg h]
    by_cases h2 : k = 11
    · rw [decide_eq_true (Or.inr h2), h2]; rfl
    · rw [decide_eq_false (fun h3 => h3.elim h h2)]; exact congrArg some (beq_eq_false_iff_ne.mpr h2)
theorem ref_Never_ev (u0 : 0 ≤ aw ∧ aw < 4294967296) (u1 : 0 ≤ ad ∧ ad < 256) (u3 : -9223372036854775808 ≤ al ∧ al ≤ 9223372036854775807) (v0 : 0 ≤ bw ∧ bw < 4294967296) (v1 : 0 ≤ bd ∧ bd < 256) (v3 : -9223372036854775808 ≤ bl ∧ bl ≤ 9223372036854775807) :
    Ev (fun k => horariumref15_Never.f k g0 g1 g2 kd n aw ad ap al ar bw bd bp bl br wl) (NV kd aw ar bw br (HB g0 g1 g2 kd n aw ad ap al ar bw bd bp bl br wl) (HB g0 g1 g2 kd n aw ad ap al ar bw bd bp bl br 0)) := by
  have hh := ref_Holds_ev (g0 := g0) (g1 := g1) (g2 := g2) (kd := kd) (n := n) (ap := ap) (ar := ar) (bp := bp) (br := br) (wl := wl) u0 u1 u3 v0 v1 v3
  have hz := ref_Holds_ev (g0 := g0) (g1 := g1) (g2 := g2) (kd := kd) (n := n) (ap := ap) (ar := ar) (bp := bp) (br := br) (wl := 0) u0 u1 u3 v0 v1 v3
  unfold horariumref15_Never.f
  simp only [ref_Known_f, Option.bind_some, ite_dec]
  generalize hH : HB g0 g1 g2 kd n aw ad ap al ar bw bd bp bl br wl = h at hh ⊢
  generalize hH0 : HB g0 g1 g2 kd n aw ad ap al ar bw bd bp bl br 0 = h0 at hz ⊢
  by_cases hk : KN kd
  · simp only [if_pos hk]
    have e1 : ∀ k, (if ar = -2 then horariumref15_Never.j0 k kd n wl false g0 g1 g2 aw ad ap al ar bw bd bp bl br else horariumref15_Never.j0 k kd n wl (br != -2) g0 g1 g2 aw ad ap al ar bw bd bp bl br) = horariumref15_Never.j0 k kd n wl (decide (ar ≠ -2 ∧ br ≠ -2)) g0 g1 g2 aw ad ap al ar bw bd bp bl br := by
      intro k
      by_cases h : ar = -2
      · rw [if_pos h, decide_eq_false (show ¬ (ar ≠ -2 ∧ br ≠ -2) from fun h2 => h2.1 h)]
      · rw [if_neg h]
        congr 1
        by_cases h2 : br = -2
        · rw [decide_eq_false (show ¬ (ar ≠ -2 ∧ br ≠ -2) from fun h3 => h3.2 h2), h2]; rfl
        · rw [decide_eq_true (show ar ≠ -2 ∧ br ≠ -2 from ⟨h, h2⟩)]; exact bne_iff_ne.mpr h2
    refine Ev.congr e1 (up ?_)
    simp only [horariumref15_Never.j0, ref_rooms_f, Option.bind_some, ite_dec]
    by_cases cr : kd = 10 ∨ kd = 11
    · have c14 : ¬ kd = 14 := by omega
      simp only [if_pos cr]
      unfold NV
      simp only [if_neg c14, if_pos cr]
      by_cases hp : ar ≠ -2 ∧ br ≠ -2
      · simp only [if_pos hp, decide_eq_true hp, Bool.true_or, Bool.true_and]
        exact Ev.bind hh (Ev.now _)
      · simp only [if_neg hp, decide_eq_false hp, Bool.false_or]
        by_cases c10 : kd = 10
        · simp only [if_pos c10, decide_eq_true c10, Bool.true_and]
          by_cases ha : ar = -1
          · simp only [if_pos ha, decide_eq_true (show ar = -1 ∨ br = -1 from Or.inl ha), Bool.true_and]
            exact Ev.bind hh (Ev.now _)
          · simp only [if_neg ha]
            by_cases hb : br = -1
            · simp only [if_pos hb, decide_eq_true (show ar = -1 ∨ br = -1 from Or.inr hb), Bool.true_and]
              exact Ev.bind hh (Ev.now _)
            · simp only [if_neg hb, decide_eq_false (show ¬ (ar = -1 ∨ br = -1) from fun h3 => h3.elim ha hb), Bool.false_and]
              exact Ev.now _
        · simp only [if_neg c10, decide_eq_false c10, Bool.false_and]
          exact Ev.now _
    · simp only [if_neg cr]
      have key : ∀ t : Bool, t = !(decide (aw ≠ 0 ∧ bw ≠ 0) && !h) → Ev (fun k => horariumref15_Never.j1 k kd n (decide (ar ≠ -2 ∧ br ≠ -2)) t g0 g1 g2 aw ad ap al ar bw bd bp bl br) (NV kd aw ar bw br h h0) := by
        intro t ht
        refine up ?_
        simp only [horariumref15_Never.j1]
        unfold NV
        by_cases c14 : kd = 14
        · simp only [if_pos c14, ite_dec]
          by_cases ha : aw = 0
          · have hd := decide_eq_false (show ¬ (aw ≠ 0 ∧ bw ≠ 0) from fun h2 => h2.1 ha)
            rw [hd] at ht
            subst ht
            simp only [hd, Bool.false_and, Bool.not_false, if_true, if_pos ha]
            exact Ev.now _
          · by_cases hb : bw = 0
            · have hd := decide_eq_false (show ¬ (aw ≠ 0 ∧ bw ≠ 0) from fun h2 => h2.2 hb)
              rw [hd] at ht
              subst ht
              simp only [hd, Bool.false_and, Bool.not_false, if_true, if_neg ha, if_pos hb]
              exact Ev.now _
            · have hd := decide_eq_true (show (aw ≠ 0 ∧ bw ≠ 0) from ⟨ha, hb⟩)
              rw [hd] at ht
              subst ht
              cases h with
              | true =>
                simp only [hd, Bool.true_and, Bool.not_true, Bool.not_false, if_true, if_neg ha, if_neg hb, Bool.false_and, Bool.or_false]
                exact Ev.bind hz (Ev.now _)
              | false =>
                simp only [hd, Bool.true_and, Bool.not_false, Bool.not_true, Bool.false_eq_true, if_false]
                by_cases hp : ar ≠ -2 ∧ br ≠ -2
                · simp only [if_pos hp, decide_eq_true hp, Bool.or_true]
                  exact Ev.now _
                · simp only [if_neg hp, decide_eq_false hp, Bool.or_false]
                  exact Ev.bind hz (Ev.now _)
        · simp only [if_neg c14, if_neg cr, decide_eq_true hk, Bool.true_and]
          subst ht
          by_cases hd : aw ≠ 0 ∧ bw ≠ 0
          · cases h <;> simp only [decide_eq_true hd, Bool.true_and, Bool.not_false, Bool.not_true, Bool.false_eq_true, if_false, if_true] <;> exact Ev.now _
          · simp only [decide_eq_false hd, Bool.false_and, Bool.not_false, if_true]
            exact Ev.now _
      by_cases ha : aw = 0
      · simp only [if_pos ha]
        exact key true (by rw [decide_eq_false (show ¬ (aw ≠ 0 ∧ bw ≠ 0) from fun h2 => h2.1 ha)]; rfl)
      · simp only [if_neg ha]
        by_cases hb : bw = 0
        · simp only [if_pos hb]
          exact key true (by rw [decide_eq_false (show ¬ (aw ≠ 0 ∧ bw ≠ 0) from fun h2 => h2.2 hb)]; rfl)
        · simp only [if_neg hb]
          exact Ev.bind hh (key h (by rw [decide_eq_true (show (aw ≠ 0 ∧ bw ≠ 0) from ⟨ha, hb⟩)]; cases h <;> rfl))
  · simp only [if_neg hk]
    have hn : NV kd aw ar bw br h h0 = false := by
      unfold NV
      rw [if_neg (show ¬ kd = 14 by unfold KN at hk; omega), if_neg (show ¬ (kd = 10 ∨ kd = 11) by unfold KN at hk; omega), decide_eq_false hk]
      rfl
    rw [hn]
    exact Ev.now _
end
end Go.Proofs.Ytddheiloodfkdaa.K5
