/- The first meeting of a time, by package when; plain. -/
import Derived.Test.YtddheiloodfkdaaQ6
import Derived.Test.YtddheiloodfkdaaW1
import Derived.Test.YtddheiloodfkdaaL1
set_option linter.unusedVariables false
set_option linter.unusedSimpArgs false
namespace Go.Proofs.Ytddheiloodfkdaa.K2
open Go.RowKit Go.Proofs.YtddheiloodfkdaaW.PrintWords Go.Proofs.YtddheiloodfkdaaW.PrintLast Go.Proofs.YtddheiloodfkdaaW.PrintMore Go.Proofs.Ytddheiloodfkdaa.M Go.Proofs.Ytddheiloodfkdaa.Q Go.Proofs.Ytddheiloodfkdaa.W1 Go.Proofs.Ytddheiloodfkdaa.L1
/-- The lowest bit of a number. -/
def LOW (n j : Nat) : Prop := n.testBit j = true ∧ ∀ i, i < j → n.testBit i = false
theorem low_ex {n m : Nat} (h0 : n ≠ 0) (h1 : n < 2 ^ m) : ∃ j, j < m ∧ LOW n j := by
  rcases first_or m (fun i => n.testBit i = true) with h | ⟨j, h2, h3, h4⟩
  · have := (lt_pow_iff (j := 0) h1).mpr fun i _ hi => by simpa using h i hi
    simp at this
    exact absurd this h0
  · exact ⟨j, h2, h3, fun i hi => by simpa using h4 i hi⟩
theorem low_ev {n j : Nat} (hn : n < 4294967296) (hj : j < 32) (hl : LOW n j) : Ev (fun k => when_low.f k (n : Int)) (j : Int) := by
  obtain ⟨h1, h0⟩ := hl
  have key : ∀ d i : Nat, i ≤ j → j - i = d → Ev (fun k => when_low.l0 k (n : Int) (i : Int)) (j : Int) := by
    intro d
    induction d with
    | zero =>
      intro i hi hd
      obtain rfl : i = j := by omega
      have hb := Aside0.mk (bit_u32 (x := (n : Int)) (i := (i : Int)) (Int.natCast_nonneg _) (by omega) (Int.natCast_nonneg _))
      refine Ev.step (fun k => ?_) (Ev.now _)
      simp only [when_low.l0]
      rw [if_pos (Int.natCast_nonneg _), hb.out, tb_nat, h1, if_pos (show true = true from rfl), if_neg (by decide)]
    | succ d ih =>
      intro i hi hd
      have hb := Aside0.mk (bit_u32 (x := (n : Int)) (i := (i : Int)) (Int.natCast_nonneg _) (by omega) (Int.natCast_nonneg _))
      have hz := h0 i (by omega)
      refine Ev.step (fun k => ?_) (ih (i + 1) (by omega) (by omega))
      simp only [when_low.l0]
      rw [if_pos (Int.natCast_nonneg _), hb.out, tb_nat, hz, if_neg (show ¬ (false = true) by decide), if_pos rfl, w64s (by omega)]
  exact key j 0 (by omega) (by omega)
/-- The number of a time's first moment. -/
def FST (g1 g2 w0 w1 w2 : Int) (f : Int) : Prop := ∃ j0 j1 : Nat, LOW w0.toNat j0 ∧ LOW w1.toNat j1 ∧ f = ((j0 : Int) * g1 + j1) * g2 + w2
open Classical in
noncomputable def FM (g1 g2 w0 w1 w2 : Int) : Int := if h : ∃ f, FST g1 g2 w0 w1 w2 f then Classical.choose h else 0
theorem FST_FM {g0 g1 g2 w0 w1 w2 w3 : Int} (u0 : 0 ≤ w0 ∧ w0 < 4294967296) (u1 : 0 ≤ w1 ∧ w1 < 256) (h : RT g0 g1 g2 w0 w1 w2 w3) : FST g1 g2 w0 w1 w2 (FM g1 g2 w0 w1 w2) := by
  have h' := h
  unfold RT RG TM at h'
  have e0 : w0.toNat < 2 ^ 32 := by omega
  have e1 : w1.toNat < 2 ^ 8 := by omega
  obtain ⟨j0, _, l0⟩ := low_ex (n := w0.toNat) (by omega) e0
  obtain ⟨j1, _, l1⟩ := low_ex (n := w1.toNat) (by omega) e1
  have hx : ∃ f, FST g1 g2 w0 w1 w2 f := ⟨_, j0, j1, l0, l1, rfl⟩
  unfold FM
  rw [dif_pos hx]
  exact Classical.choose_spec hx
theorem low_lt {n j m : Nat} (h : LOW n j) (hn : n < 2 ^ m) : j < m := by
  refine Classical.byContradiction fun hc => ?_
  have h1 : n < 2 ^ j := Nat.lt_of_lt_of_le hn (Nat.pow_le_pow_right (by omega) (by omega))
  have := Nat.testBit_lt_two_pow h1
  rw [h.1] at this
  cases this
theorem pow_lt {w g : Int} (h0 : 0 ≤ w) (h : w < 2 ^ g.toNat) : w.toNat < 2 ^ g.toNat := by
  rw [Int.toNat_lt h0]
  exact_mod_cast h
/-- Where the first moment lies. -/
theorem FST_in {g0 g1 g2 w0 w1 w2 w3 f : Int} (u0 : 0 ≤ w0) (u1 : 0 ≤ w1) (h : RT g0 g1 g2 w0 w1 w2 w3) (hf : FST g1 g2 w0 w1 w2 f) :
    ∃ j0 j1 : Nat, LOW w0.toNat j0 ∧ LOW w1.toNat j1 ∧ (j0 : Int) < g0 ∧ (j1 : Int) < g1 ∧ f = ((j0 : Int) * g1 + j1) * g2 + w2 := by
  obtain ⟨j0, j1, l0, l1, e⟩ := hf
  obtain ⟨hg, ht, hs, _, h0, _, h1⟩ := h
  unfold RG at hg
  have a0 := low_lt l0 (pow_lt u0 h0)
  have a1 := low_lt l1 (pow_lt u1 h1)
  exact ⟨j0, j1, l0, l1, by omega, by omega, e⟩
theorem sizes {v d D S : Int} (hv : 0 ≤ v ∧ v < 20) (hd : 0 ≤ d ∧ d < 7) (hD : 1 ≤ D ∧ D ≤ 7) (hS : 1 ≤ S ∧ S ≤ 96) : 0 ≤ v * D ∧ v * D ≤ 140 ∧ 0 ≤ (v * D + d) * S ∧ (v * D + d) * S ≤ 14112 := by
  have h1 : 0 ≤ v * D := Int.mul_nonneg hv.1 (by omega)
  have h2 : v * D ≤ 20 * 7 := Int.mul_le_mul (by omega) (by omega) (by omega) (by omega)
  have h3 : 0 ≤ (v * D + d) * S := Int.mul_nonneg (by omega) (by omega)
  have h4 : (v * D + d) * S ≤ 147 * 96 := Int.mul_le_mul (by omega) (by omega) (by omega) (by omega)
  omega
theorem FST_le {g0 g1 g2 w0 w1 w2 w3 f : Int} (u0 : 0 ≤ w0) (u1 : 0 ≤ w1) (h : RT g0 g1 g2 w0 w1 w2 w3) (hf : FST g1 g2 w0 w1 w2 f) : 0 ≤ f ∧ f ≤ 20000 := by
  obtain ⟨j0, j1, _, _, h0, h1, e⟩ := FST_in u0 u1 h hf
  have h' := h
  unfold RT RG TM at h'
  have hz := sizes (v := (j0 : Int)) (d := (j1 : Int)) (D := g1) (S := g2) (by omega) (by omega) (by omega) (by omega)
  omega
theorem when_First_ev {g0 g1 g2 w0 w1 w2 w3 f : Int} (u0 : 0 ≤ w0 ∧ w0 < 4294967296) (u1 : 0 ≤ w1 ∧ w1 < 256) (h : RT g0 g1 g2 w0 w1 w2 w3) (hf : FST g1 g2 w0 w1 w2 f) :
    Ev (fun k => when_First.f k g0 g1 g2 w0 w1 w2 w3) (f, f + w3 - 1) := by
  obtain ⟨j0, j1, l0, l1, h0, h1, e⟩ := FST_in u0.1 u1.1 h hf
  have hle := FST_le u0.1 u1.1 h hf
  have h' := h
  unfold RT RG TM at h'
  have hz := sizes (v := (j0 : Int)) (d := (j1 : Int)) (D := g1) (S := g2) (by omega) (by omega) (by omega) (by omega)
  have e0 : ((w0.toNat : Nat) : Int) = w0 := by omega
  have e1 : w1 % 4294967296 = ((w1.toNat : Nat) : Int) := by omega
  have p0 := low_ev (n := w0.toNat) (j := j0) (by omega) (by omega) l0
  have p1 := low_ev (n := w1.toNat) (j := j1) (by omega) (by omega) l1
  rw [e0] at p0
  have q1 := Aside0.mk (w64 (n := g0 - 1) (by omega) (by omega))
  have q2 := Aside0.mk (w64 (n := g1 - 1) (by omega) (by omega))
  have q3 := Aside0.mk (w64 (n := g2 - 1) (by omega) (by omega))
  have q4 := Aside0.mk (w64 (n := (j0 : Int) * g1) (by omega) (by omega))
  have q5 := Aside0.mk (w64 (n := (j0 : Int) * g1 + j1) (by omega) (by omega))
  have q6 := Aside0.mk (w64 (n := ((j0 : Int) * g1 + j1) * g2) (by omega) (by omega))
  have q7 := Aside0.mk (w64 (n := f) (by omega) (by omega))
  have q8 := Aside0.mk (w64 (n := f + w3) (by omega) (by omega))
  have q9 := Aside0.mk (w64 (n := f + w3 - 1) (by omega) (by omega))
  have r1 : decide ((0 : Int) ≤ (j0 : Int) ∧ (j0 : Int) ≤ g0 - 1) = true := decide_eq_true (by omega)
  have r2 : decide ((0 : Int) ≤ (j1 : Int) ∧ (j1 : Int) ≤ g1 - 1) = true := decide_eq_true (by omega)
  have r3 : decide ((0 : Int) ≤ w2 ∧ w2 ≤ g2 - 1) = true := decide_eq_true (by omega)
  have rg : RG g0 g1 g2 := h.1
  unfold when_First.f
  rw [when_Right_f u0 u1, decide_eq_true h]
  simp only [Option.bind_some, if_true, e1]
  refine Ev.bind p0 (Ev.bind p1 (Ev.congr (fun k => ?_) (Ev.now _)))
  unfold when_Moment.f
  rw [when_RightGrid_f, decide_eq_true rg]
  simp only [within_f, Option.bind_some, if_true, q1.out, q2.out, q3.out, r1, r2, r3, q4.out, q5.out, q6.out, q7.out, ← e, q8.out, q9.out]
end Go.Proofs.Ytddheiloodfkdaa.K2
