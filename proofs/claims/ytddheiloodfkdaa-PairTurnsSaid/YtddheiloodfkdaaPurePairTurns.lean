/- The law PairTurns, over numbers alone. -/
import Derived.Test.YtddheiloodfkdaaQ31
import Derived.Test.YtddheiloodfkdaaK5
set_option linter.unusedVariables false
set_option linter.unusedSimpArgs false
namespace Go.Proofs.Ytddheiloodfkdaa.Pure
open Go.RowKit Go.Proofs.YtddheiloodfkdaaW.PrintWords Go.Proofs.YtddheiloodfkdaaW.PrintLast Go.Proofs.YtddheiloodfkdaaW.PrintMore Go.Proofs.Ytddheiloodfkdaa.M Go.Proofs.Ytddheiloodfkdaa.Q Go.Proofs.Ytddheiloodfkdaa.W1 Go.Proofs.Ytddheiloodfkdaa.W3 Go.Proofs.Ytddheiloodfkdaa.K1 Go.Proofs.Ytddheiloodfkdaa.K2 Go.Proofs.Ytddheiloodfkdaa.R1 Go.Proofs.Ytddheiloodfkdaa.K3 Go.Proofs.Ytddheiloodfkdaa.K4 Go.Proofs.Ytddheiloodfkdaa.K5
theorem heads_ev : Ev (fun k => horariumlaw15_heads.f k) true := Ev.of (fun k => horariumlaw15_heads.mono k) (k := 60) (by decide +kernel)
section
variable {g0 g1 g2 kd n aw ad ap al ar bw bd bp bl br wl : Int}
theorem ONE_comm : ONE ar br ↔ ONE br ar := by unfold ONE; omega
theorem TI_comm (h : kd ≠ 12) : TI g1 g2 kd n aw ad ap al bw bd bp bl wl = TI g1 g2 kd n bw bd bp bl aw ad ap al wl := by
  unfold TI
  rw [AND_comm aw bw, AND_comm ad bd, if_neg h, if_neg h]
  have e1 : decide (MT aw ad ap al bw bd bp bl) = decide (MT bw bd bp bl aw ad ap al) := decide_eq_decide.mpr MT_comm
  have e2 : decide (RCH aw ad ap al bw bd bp bl wl) = decide (RCH bw bd bp bl aw ad ap al wl) := decide_eq_decide.mpr RCH_comm
  have e3 : decide (ap = bp) = decide (bp = ap) := decide_eq_decide.mpr ⟨Eq.symm, Eq.symm⟩
  have e4 : decide ((bp ≤ ap ∧ ap + al ≤ bp + bl) ∨ (ap ≤ bp ∧ bp + bl ≤ ap + al)) = decide ((ap ≤ bp ∧ bp + bl ≤ ap + al) ∨ (bp ≤ ap ∧ ap + al ≤ bp + bl)) := decide_eq_decide.mpr or_comm
  have e5 : decide (ap + al ≤ bp ∨ bp + bl ≤ ap) = decide (bp + bl ≤ ap ∨ ap + al ≤ bp) := decide_eq_decide.mpr or_comm
  have e6 : decide (AND bd ad = ad ∨ AND bd ad = bd) = decide (AND bd ad = bd ∨ AND bd ad = ad) := decide_eq_decide.mpr or_comm
  have e7 : decide (AND bw aw = aw ∨ AND bw aw = bw) = decide (AND bw aw = bw ∨ AND bw aw = aw) := decide_eq_decide.mpr or_comm
  have e8 : decide (¬ SD aw ad ap al bw bd bp bl ∨ max (ap + al) (bp + bl) - min ap bp ≤ n) = decide (¬ SD bw bd bp bl aw ad ap al ∨ max (bp + bl) (ap + al) - min bp ap ≤ n) := by
    refine decide_eq_decide.mpr ?_
    rw [SD_comm, Int.max_comm, Int.min_comm]
  rw [e1, e2, e3, e4, e5, e6, e7, e8]
theorem HB_comm (h : kd ≠ 12) : HB g0 g1 g2 kd n aw ad ap al ar bw bd bp bl br wl = HB g0 g1 g2 kd n bw bd bp bl br aw ad ap al ar wl := by
  unfold HB
  have e1 : decide (ONE ar br) = decide (ONE br ar) := decide_eq_decide.mpr ONE_comm
  rw [e1, TI_comm h, Bool.and_left_comm (decide (RT g0 g1 g2 aw ad ap al))]
theorem NV_comm {h h0 : Bool} : NV kd aw ar bw br h h0 = NV kd bw br aw ar h h0 := by
  unfold NV
  have e1 : decide (aw ≠ 0 ∧ bw ≠ 0) = decide (bw ≠ 0 ∧ aw ≠ 0) := decide_eq_decide.mpr and_comm
  have e2 : decide (ar ≠ -2 ∧ br ≠ -2) = decide (br ≠ -2 ∧ ar ≠ -2) := decide_eq_decide.mpr and_comm
  have e3 : decide (ar = -1 ∨ br = -1) = decide (br = -1 ∨ ar = -1) := decide_eq_decide.mpr or_comm
  rw [e1, e2, e3]
theorem HB_ahead (h : HB g0 g1 g2 12 n aw ad ap al ar bw bd bp bl br wl = true) (h2 : HB g0 g1 g2 12 n bw bd bp bl br aw ad ap al ar wl = true) : False := by
  unfold HB TI at h h2
  simp only [Int.reduceEq, if_false, if_true, Bool.and_eq_true, decide_eq_true_eq] at h h2
  have t0 := h.2.1.2.1
  have t1 := h.2.2.1.2.1
  unfold TM at t0 t1
  have := h.2.2.2
  have := h2.2.2.2
  omega
end
theorem PairTurns : ∀ (a0_0 : Int) (a0_1 : Int) (a0_2 : Int) (a1 : Int) (a2 : Int) (a3_0 : Int) (a3_1 : Int) (a3_2 : Int) (a3_3 : Int) (a3_4 : Int) (a4_0 : Int) (a4_1 : Int) (a4_2 : Int) (a4_3 : Int) (a4_4 : Int) (a5 : Int), (Lit.int .i64 a0_0).wf = true → (Lit.int .i64 a0_1).wf = true → (Lit.int .i64 a0_2).wf = true → (Lit.int .i64 a1).wf = true → (Lit.int .i64 a2).wf = true → (Lit.int .u32 a3_0).wf = true → (Lit.int .u8 a3_1).wf = true → (Lit.int .i64 a3_2).wf = true → (Lit.int .i64 a3_3).wf = true → (Lit.int .i64 a3_4).wf = true → (Lit.int .u32 a4_0).wf = true → (Lit.int .u8 a4_1).wf = true → (Lit.int .i64 a4_2).wf = true → (Lit.int .i64 a4_3).wf = true → (Lit.int .i64 a4_4).wf = true → (Lit.int .i64 a5).wf = true → ∃ k, horariumlaw15_PairTurns.f k a0_0 a0_1 a0_2 a1 a2 a3_0 a3_1 a3_2 a3_3 a3_4 a4_0 a4_1 a4_2 a4_3 a4_4 a5 = some true := by
  intro g0 g1 g2 kd n aw ad ap al ar bw bd bp bl br wl _ _ _ _ _ u0 u1 _ u3 _ v0 v1 _ v3 _ _
  replace u0 := wf_u32 u0
  replace u1 := wf_u8 u1
  replace u3 := wf_i64 u3
  replace v0 := wf_u32 v0
  replace v1 := wf_u8 v1
  replace v3 := wf_i64 v3
  refine Ev.rounds ?_
  unfold horariumlaw15_PairTurns.f pair_Turns.f
  simp only [Known_f, Option.bind_some, ite_dec]
  by_cases hk : KN kd
  · simp only [if_pos hk]
    by_cases h12 : kd = 12
    · subst h12
      simp only [Option.bind_some, bne_self_eq_false, Bool.false_eq_true, if_false, if_true]
      refine Ev.bind (Holds_ev u0 u1 v0 v1) ?_
      cases h1 : HB g0 g1 g2 12 n aw ad ap al ar bw bd bp bl br wl with
      | false =>
        simp only [Bool.false_eq_true, if_false]
        exact Ev.bind heads_ev (Ev.now _)
      | true =>
        simp only [if_true]
        refine Ev.bind (Holds_ev v0 v1 u0 u1) ?_
        cases h2 : HB g0 g1 g2 12 n bw bd bp bl br aw ad ap al ar wl with
        | false =>
          simp only [Bool.false_eq_true, if_false]
          exact Ev.bind heads_ev (Ev.now _)
        | true => exact absurd (HB_ahead h1 h2) id
    · have hb : (kd != 12) = true := bne_iff_ne.mpr h12
      simp only [Option.bind_some, hb, if_true]
      refine Ev.bind (Holds_ev u0 u1 v0 v1) (Ev.bind (Holds_ev v0 v1 u0 u1) ?_)
      rw [HB_comm (aw := bw) (bw := aw) h12]
      simp only [beq_self_eq_true, if_true]
      refine Ev.bind (Never_ev u0 u1 v0 v1) (Ev.bind (Never_ev v0 v1 u0 u1) ?_)
      rw [HB_comm (aw := bw) (bw := aw) h12, HB_comm (aw := bw) (bw := aw) (wl := 0) h12, NV_comm (aw := bw) (bw := aw)]
      simp only [beq_self_eq_true, if_true]
      exact Ev.bind heads_ev (Ev.now _)
  · simp only [if_neg hk, Option.bind_some, Bool.false_eq_true, if_false, if_neg (show ¬ kd = 12 by unfold KN at hk; omega)]
    exact Ev.bind heads_ev (Ev.now _)
end Go.Proofs.Ytddheiloodfkdaa.Pure
