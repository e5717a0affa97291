/- The law PairOthers, over numbers alone. -/
import Derived.Test.YtddheiloodfkdaaEOthers
import Derived.Test.YtddheiloodfkdaaK4
set_option linter.unusedVariables false
set_option linter.unusedSimpArgs false
namespace Go.Proofs.Ytddheiloodfkdaa.Pure
open Go.RowKit Go.Proofs.YtddheiloodfkdaaW.PrintWords Go.Proofs.YtddheiloodfkdaaW.PrintLast Go.Proofs.YtddheiloodfkdaaW.PrintMore Go.Proofs.Ytddheiloodfkdaa.M Go.Proofs.Ytddheiloodfkdaa.Q Go.Proofs.Ytddheiloodfkdaa.W1 Go.Proofs.Ytddheiloodfkdaa.W3 Go.Proofs.Ytddheiloodfkdaa.K1 Go.Proofs.Ytddheiloodfkdaa.K2 Go.Proofs.Ytddheiloodfkdaa.R1 Go.Proofs.Ytddheiloodfkdaa.K3 Go.Proofs.Ytddheiloodfkdaa.K4
theorem heads_ev : Ev (fun k => horariumlaw15_heads.f k) true := Ev.of (fun k => horariumlaw15_heads.mono k) (k := 60) (by decide +kernel)
section
variable {g0 g1 g2 aw ad ap al ar bw bd bp bl br : Int}
/-- What a rule that takes no number says of the two. -/
noncomputable def HH (g0 g1 g2 aw ad ap al ar bw bd bp bl br kd : Int) : Bool := HB g0 g1 g2 kd 0 aw ad ap al ar bw bd bp bl br 0
theorem HH_or (kd : Int) (h0 : kd ≠ 10) (h1 : kd ≠ 11) (hk : KN kd) : HH g0 g1 g2 aw ad ap al ar bw bd bp bl br kd = false ∨ (RT g0 g1 g2 aw ad ap al ∧ RT g0 g1 g2 bw bd bp bl ∧ HH g0 g1 g2 aw ad ap al ar bw bd bp bl br kd = TI g1 g2 kd 0 aw ad ap al bw bd bp bl 0) := by
  unfold HH
  by_cases h : RT g0 g1 g2 aw ad ap al ∧ RT g0 g1 g2 bw bd bp bl
  · exact .inr ⟨h.1, h.2, HB_time hk h0 h1 h.1 h.2⟩
  · exact .inl (HB_out h0 h1 fun h2 => h h2.2)
/-- Two rules never hold both. -/
theorem apart {i j : Int} (hi : i ≠ 10 ∧ i ≠ 11 ∧ KN i) (hj : j ≠ 10 ∧ j ≠ 11 ∧ KN j) (h : RT g0 g1 g2 aw ad ap al → RT g0 g1 g2 bw bd bp bl → (TI g1 g2 i 0 aw ad ap al bw bd bp bl 0 && TI g1 g2 j 0 aw ad ap al bw bd bp bl 0) = false) :
    (HH g0 g1 g2 aw ad ap al ar bw bd bp bl br i && HH g0 g1 g2 aw ad ap al ar bw bd bp bl br j) = false := by
  rcases HH_or (g0 := g0) (g1 := g1) (g2 := g2) (aw := aw) (ad := ad) (ap := ap) (al := al) (ar := ar) (bw := bw) (bd := bd) (bp := bp) (bl := bl) (br := br) i hi.1 hi.2.1 hi.2.2 with h1 | ⟨ha, hb, h1⟩
  · rw [h1]; rfl
  · rcases HH_or (g0 := g0) (g1 := g1) (g2 := g2) (aw := aw) (ad := ad) (ap := ap) (al := al) (ar := ar) (bw := bw) (bd := bd) (bp := bp) (bl := bl) (br := br) j hj.1 hj.2.1 hj.2.2 with h2 | ⟨_, _, h2⟩
    · rw [h2]; simp
    · rw [h1, h2]; exact h ha hb
theorem kn {i : Int} (h : (1 ≤ i ∧ i ≤ 14) ∧ i ≠ 10 ∧ i ≠ 11) : i ≠ 10 ∧ i ≠ 11 ∧ KN i := ⟨h.2.1, h.2.2, h.1⟩
theorem p23 : (HH g0 g1 g2 aw ad ap al ar bw bd bp bl br 2 && HH g0 g1 g2 aw ad ap al ar bw bd bp bl br 3) = false := by
  refine apart (kn (by omega)) (kn (by omega)) fun ha hb => ?_
  have h1 := ha.2.1
  have h2 := hb.2.1
  unfold TM at h1 h2
  unfold TI
  simp only [Int.reduceEq, if_false, if_true]
  rw [← Bool.decide_and]
  exact decide_eq_false (by omega)
theorem p45 (u1 : 0 ≤ ad ∧ ad < 256) (v1 : 0 ≤ bd ∧ bd < 256) : (HH g0 g1 g2 aw ad ap al ar bw bd bp bl br 4 && HH g0 g1 g2 aw ad ap al ar bw bd bp bl br 5) = false := by
  refine apart (kn (by omega)) (kn (by omega)) fun ha hb => ?_
  have h1 := ha.2.2.2.2.2.1
  have h2 := hb.2.2.2.2.2.1
  unfold TI
  simp only [Int.reduceEq, if_false, if_true]
  rw [← Bool.decide_and]
  exact decide_eq_false (by omega)
theorem p67 (u0 : 0 ≤ aw) : (HH g0 g1 g2 aw ad ap al ar bw bd bp bl br 6 && HH g0 g1 g2 aw ad ap al ar bw bd bp bl br 7) = false := by
  refine apart (kn (by omega)) (kn (by omega)) fun ha hb => ?_
  have h1 := ha.2.2.2.1
  have h2 := hb.2.2.2.1
  unfold TI
  simp only [Int.reduceEq, if_false, if_true]
  rw [← Bool.decide_and]
  exact decide_eq_false (by omega)
theorem p89 : (HH g0 g1 g2 aw ad ap al ar bw bd bp bl br 8 && HH g0 g1 g2 aw ad ap al ar bw bd bp bl br 9) = false := by
  refine apart (kn (by omega)) (kn (by omega)) fun ha hb => ?_
  unfold TI
  simp only [Int.reduceEq, if_false, if_true]
  cases decide (MT aw ad ap al bw bd bp bl) <;> rfl
theorem p1011 : (HH g0 g1 g2 aw ad ap al ar bw bd bp bl br 10 && HH g0 g1 g2 aw ad ap al ar bw bd bp bl br 11) = false ∧ (HH g0 g1 g2 aw ad ap al ar bw bd bp bl br 10 || HH g0 g1 g2 aw ad ap al ar bw bd bp bl br 11) = true := by
  unfold HH HB
  simp only [Int.reduceEq, if_false, if_true]
  cases decide (ONE ar br) <;> exact ⟨rfl, rfl⟩
theorem p914 : HH g0 g1 g2 aw ad ap al ar bw bd bp bl br 9 = HH g0 g1 g2 aw ad ap al ar bw bd bp bl br 14 := by
  have hz := RCH_zero (aw := aw) (ad := ad) (ap := ap) (al := al) (bw := bw) (bd := bd) (bp := bp) (bl := bl)
  have e : TI g1 g2 9 0 aw ad ap al bw bd bp bl 0 = TI g1 g2 14 0 aw ad ap al bw bd bp bl 0 := by
    unfold TI
    simp only [Int.reduceEq, if_false, if_true]
    rw [← decide_not]
    exact decide_eq_decide.mpr hz.symm
  have k9 : KN 9 := by unfold KN; omega
  have k14 : KN 14 := by unfold KN; omega
  unfold HH HB
  simp only [Int.reduceEq, if_false, e, decide_eq_true k9, decide_eq_true k14]
theorem p814 : (HH g0 g1 g2 aw ad ap al ar bw bd bp bl br 8 && HH g0 g1 g2 aw ad ap al ar bw bd bp bl br 14) = false := by
  rw [← p914]; exact p89
end
theorem PairOthers : ∀ (a0_0 : Int) (a0_1 : Int) (a0_2 : Int) (a1_0 : Int) (a1_1 : Int) (a1_2 : Int) (a1_3 : Int) (a1_4 : Int) (a2_0 : Int) (a2_1 : Int) (a2_2 : Int) (a2_3 : Int) (a2_4 : Int), (Lit.int .i64 a0_0).wf = true → (Lit.int .i64 a0_1).wf = true → (Lit.int .i64 a0_2).wf = true → (Lit.int .u32 a1_0).wf = true → (Lit.int .u8 a1_1).wf = true → (Lit.int .i64 a1_2).wf = true → (Lit.int .i64 a1_3).wf = true → (Lit.int .i64 a1_4).wf = true → (Lit.int .u32 a2_0).wf = true → (Lit.int .u8 a2_1).wf = true → (Lit.int .i64 a2_2).wf = true → (Lit.int .i64 a2_3).wf = true → (Lit.int .i64 a2_4).wf = true → ∃ k, horariumlaw15_PairOthers.f k a0_0 a0_1 a0_2 a1_0 a1_1 a1_2 a1_3 a1_4 a2_0 a2_1 a2_2 a2_3 a2_4 = some true := by
  intro g0 g1 g2 aw ad ap al ar bw bd bp bl br _ _ _ u0 u1 _ _ _ v0 v1 _ _ _
  replace u0 := wf_u32 u0
  replace u1 := wf_u8 u1
  replace v0 := wf_u32 v0
  replace v1 := wf_u8 v1
  refine Ev.rounds ?_
  have hh : ∀ kd, Ev (fun k => pair_Holds.f k g0 g1 g2 kd 0 aw ad ap al ar bw bd bp bl br 0) (HH g0 g1 g2 aw ad ap al ar bw bd bp bl br kd) := fun kd => Holds_ev u0 u1 v0 v1
  have c : ¬ ((HH g0 g1 g2 aw ad ap al ar bw bd bp bl br 2 && HH g0 g1 g2 aw ad ap al ar bw bd bp bl br 3) || (HH g0 g1 g2 aw ad ap al ar bw bd bp bl br 4 && HH g0 g1 g2 aw ad ap al ar bw bd bp bl br 5) || (HH g0 g1 g2 aw ad ap al ar bw bd bp bl br 6 && HH g0 g1 g2 aw ad ap al ar bw bd bp bl br 7) || (HH g0 g1 g2 aw ad ap al ar bw bd bp bl br 8 && HH g0 g1 g2 aw ad ap al ar bw bd bp bl br 9) || (HH g0 g1 g2 aw ad ap al ar bw bd bp bl br 10 && HH g0 g1 g2 aw ad ap al ar bw bd bp bl br 11) || (HH g0 g1 g2 aw ad ap al ar bw bd bp bl br 8 && HH g0 g1 g2 aw ad ap al ar bw bd bp bl br 14)) = true := by
    rw [p23, p45 u1 v1, p67 u0.1, p89, p1011.1, p814]
    decide
  unfold horariumlaw15_PairOthers.f
  refine Ev.bind (hh 2) (Ev.bind (hh 3) (Ev.bind (hh 4) (Ev.bind (hh 5) (Ev.bind (hh 6) (Ev.bind (hh 7) (Ev.bind (hh 8) (Ev.bind (hh 9) (Ev.bind (hh 10) (Ev.bind (hh 11) (Ev.bind (hh 14) ?_))))))))))
  simp only [if_neg c]
  unfold horariumlaw15_PairOthersT.f
  refine Ev.bind (hh 9) (Ev.bind (hh 14) ?_)
  simp only [p914, beq_self_eq_true, if_true]
  refine Ev.bind (hh 10) ?_
  cases h10 : HH g0 g1 g2 aw ad ap al ar bw bd bp bl br 10 with
  | true =>
    simp only [if_true]
    exact Ev.bind heads_ev (Ev.now _)
  | false =>
    simp only [Bool.false_eq_true, if_false]
    have h11 := (p1011 (g0 := g0) (g1 := g1) (g2 := g2) (aw := aw) (ad := ad) (ap := ap) (al := al) (ar := ar) (bw := bw) (bd := bd) (bp := bp) (bl := bl) (br := br)).2
    rw [h10, Bool.false_or] at h11
    refine Ev.bind (hh 11) ?_
    simp only [h11, if_true]
    exact Ev.bind heads_ev (Ev.now _)
end Go.Proofs.Ytddheiloodfkdaa.Pure
