/- Whether a rule can't hold any more, by package pair; plain. -/
import Derived.Test.YtddheiloodfkdaaQ9
import Derived.Test.YtddheiloodfkdaaK4
import Derived.Test.YtddheiloodfkdaaK5s
set_option linter.unusedVariables false
set_option linter.unusedSimpArgs false
namespace Go.Proofs.Ytddheiloodfkdaa.K5
open Go.RowKit Go.Proofs.YtddheiloodfkdaaW.PrintWords Go.Proofs.YtddheiloodfkdaaW.PrintLast Go.Proofs.YtddheiloodfkdaaW.PrintMore Go.Proofs.Ytddheiloodfkdaa.M Go.Proofs.Ytddheiloodfkdaa.Q Go.Proofs.Ytddheiloodfkdaa.W1 Go.Proofs.Ytddheiloodfkdaa.W3 Go.Proofs.Ytddheiloodfkdaa.K1 Go.Proofs.Ytddheiloodfkdaa.K2 Go.Proofs.Ytddheiloodfkdaa.R1 Go.Proofs.Ytddheiloodfkdaa.K3 Go.Proofs.Ytddheiloodfkdaa.K4
section
variable {g0 g1 g2 kd n aw ad ap al ar bw bd bp bl br wl : Int}
theorem Never_ev (u0 : 0 ≤ aw ∧ aw < 4294967296) (u1 : 0 ≤ ad ∧ ad < 256) (v0 : 0 ≤ bw ∧ bw < 4294967296) (v1 : 0 ≤ bd ∧ bd < 256) :
    Ev (fun k => pair_Never.f k g0 g1 g2 kd n aw ad ap al ar bw bd bp bl br wl) (NV kd aw ar bw br (HB g0 g1 g2 kd n aw ad ap al ar bw bd bp bl br wl) (HB g0 g1 g2 kd n aw ad ap al ar bw bd bp bl br 0)) := by
  have hh := Holds_ev (g0 := g0) (g1 := g1) (g2 := g2) (kd := kd) (n := n) (ap := ap) (al := al) (ar := ar) (bp := bp) (bl := bl) (br := br) (wl := wl) u0 u1 v0 v1
  have hz := Holds_ev (g0 := g0) (g1 := g1) (g2 := g2) (kd := kd) (n := n) (ap := ap) (al := al) (ar := ar) (bp := bp) (bl := bl) (br := br) (wl := 0) u0 u1 v0 v1
  have e0 : ∀ k, (pair_Never.f k g0 g1 g2 kd n aw ad ap al ar bw bd bp bl br wl) = (pair_Needs.f k kd).bind fun bt => pair_Never.j0 k kd n wl bt.1 bt.2 (decide (aw ≠ 0 ∧ bw ≠ 0)) g0 g1 g2 aw ad ap al ar bw bd bp bl br := by
    intro k
    unfold pair_Never.f
    congr 1
    funext bt
    by_cases h : aw = 0
    · rw [if_pos h, decide_eq_false (fun h2 => h2.1 h)]
    · rw [if_neg h]
      congr 1
      by_cases h2 : bw = 0
      · rw [decide_eq_false (fun h3 => h3.2 h2), h2]; rfl
      · rw [decide_eq_true ⟨h, h2⟩]; exact bne_iff_ne.mpr h2
  refine Ev.congr e0 (Ev.bind (Needs_ev kd) (up ?_))
  simp only [pair_Never.j0]
  have e1 : ∀ k, (if ar = -2 then pair_Never.j1 k kd n wl (decide (KN kd ∧ kd ≠ 10 ∧ kd ≠ 11)) (decide (kd = 10 ∨ kd = 11 ∨ kd = 14)) (decide (aw ≠ 0 ∧ bw ≠ 0)) false g0 g1 g2 aw ad ap al ar bw bd bp bl br else pair_Never.j1 k kd n wl (decide (KN kd ∧ kd ≠ 10 ∧ kd ≠ 11)) (decide (kd = 10 ∨ kd = 11 ∨ kd = 14)) (decide (aw ≠ 0 ∧ bw ≠ 0)) (br != -2) g0 g1 g2 aw ad ap al ar bw bd bp bl br) = pair_Never.j1 k kd n wl (decide (KN kd ∧ kd ≠ 10 ∧ kd ≠ 11)) (decide (kd = 10 ∨ kd = 11 ∨ kd = 14)) (decide (aw ≠ 0 ∧ bw ≠ 0)) (decide (ar ≠ -2 ∧ br ≠ -2)) g0 g1 g2 aw ad ap al ar bw bd bp bl br := by
    intro k
    by_cases h : ar = -2
    · rw [if_pos h, decide_eq_false (show ¬ (ar ≠ -2 ∧ br ≠ -2) from fun h2 => h2.1 h)]
    · rw [if_neg h]
      congr 1
      by_cases h2 : br = -2
      · rw [decide_eq_false (show ¬ (ar ≠ -2 ∧ br ≠ -2) from fun h3 => h3.2 h2), h2]; rfl
      · rw [decide_eq_true (show ar ≠ -2 ∧ br ≠ -2 from ⟨h, h2⟩)]; exact bne_iff_ne.mpr h2
  refine Ev.congr e1 (up ?_)
  simp only [pair_Never.j1]
  refine Ev.bind hh ?_
  generalize hH : HB g0 g1 g2 kd n aw ad ap al ar bw bd bp bl br wl = h at hh ⊢
  generalize hH0 : HB g0 g1 g2 kd n aw ad ap al ar bw bd bp bl br 0 = h0 at hz ⊢
  simp only [ite_dec]
  by_cases c14 : kd = 14
  · have t1 : KN kd ∧ kd ≠ 10 ∧ kd ≠ 11 := by unfold KN; omega
    have t2 : kd = 10 ∨ kd = 11 ∨ kd = 14 := by omega
    simp only [if_pos t1]
    refine up ?_
    simp only [pair_Never.j2, ite_dec, if_pos t2]
    unfold NV
    simp only [if_pos c14]
    by_cases ht : aw ≠ 0 ∧ bw ≠ 0
    · simp only [if_pos ht]
      refine Ev.bind hz ?_
      have hd := decide_eq_true ht
      cases h0 <;> cases h <;> simp only [Bool.false_eq_true, if_false, if_true, hd, Bool.not_true, Bool.not_false, Bool.true_and, Bool.true_or, Bool.false_or, Bool.false_and] <;> exact Ev.now _
    · simp only [if_neg ht, decide_eq_false ht, Bool.false_and]
      exact Ev.now _
  · by_cases cr : kd = 10 ∨ kd = 11
    · have t1 : ¬ (KN kd ∧ kd ≠ 10 ∧ kd ≠ 11) := by omega
      have t2 : kd = 10 ∨ kd = 11 ∨ kd = 14 := by omega
      simp only [if_neg t1]
      refine up ?_
      simp only [pair_Never.j2, ite_dec, if_neg t1, if_pos t2, Bool.false_eq_true, if_false]
      unfold NV
      simp only [if_neg c14, if_pos cr]
      by_cases hp : ar ≠ -2 ∧ br ≠ -2
      · have hd := decide_eq_true hp
        by_cases ha : ar = -1
        · simp only [if_pos ha, if_pos hp, hd, Bool.true_or, Bool.true_and]
          exact Ev.now _
        · simp only [if_neg ha, if_pos hp, hd, Bool.true_or, Bool.true_and]
          exact Ev.now _
      · have hd := decide_eq_false hp
        by_cases ha : ar = -1
        · simp only [if_pos ha, if_neg hp, hd, Bool.false_or, decide_eq_true (show ar = -1 ∨ br = -1 from Or.inl ha), Bool.and_true]
          by_cases c10 : kd = 10
          · simp only [if_pos c10, decide_eq_true c10, Bool.true_and]; exact Ev.now _
          · simp only [if_neg c10, decide_eq_false c10, Bool.false_and]; exact Ev.now _
        · by_cases hb : br = -1
          · simp only [if_neg ha, if_neg hp, if_pos hb, hd, Bool.false_or, decide_eq_true (show ar = -1 ∨ br = -1 from Or.inr hb), Bool.and_true]
            by_cases c10 : kd = 10
            · simp only [if_pos c10, decide_eq_true c10, Bool.true_and]; exact Ev.now _
            · simp only [if_neg c10, decide_eq_false c10, Bool.false_and]; exact Ev.now _
          · simp only [if_neg ha, if_neg hp, if_neg hb, hd, Bool.false_or, decide_eq_false (show ¬ (ar = -1 ∨ br = -1) from fun h3 => h3.elim ha hb), Bool.and_false, Bool.false_and]
            exact Ev.now _
    · have t2 : ¬ (kd = 10 ∨ kd = 11 ∨ kd = 14) := by omega
      unfold NV
      simp only [if_neg c14, if_neg cr]
      by_cases hk : KN kd
      · have t1 : KN kd ∧ kd ≠ 10 ∧ kd ≠ 11 := ⟨hk, by omega⟩
        simp only [if_pos t1, decide_eq_false t2, decide_eq_true hk, Bool.true_and]
        refine up ?_
        simp only [pair_Never.j2, ite_dec, if_pos t1, Bool.false_eq_true, if_false, decide_eq_true t1, if_true]
        by_cases ht : aw ≠ 0 ∧ bw ≠ 0
        · simp only [if_pos ht, decide_eq_true ht, Bool.true_and]; exact Ev.now _
        · simp only [if_neg ht, decide_eq_false ht, Bool.false_and]; exact Ev.now _
      · have t1 : ¬ (KN kd ∧ kd ≠ 10 ∧ kd ≠ 11) := fun h3 => hk h3.1
        simp only [if_neg t1, decide_eq_false t1, decide_eq_false t2, decide_eq_false hk, Bool.false_and]
        refine up ?_
        simp only [pair_Never.j2, Bool.false_eq_true, if_false]
        exact Ev.now _
end
end Go.Proofs.Ytddheiloodfkdaa.K5
