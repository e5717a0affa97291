/- The first meeting of a time, by the document's answer; plain. -/
import Derived.Test.YtddheiloodfkdaaQ22
import Derived.Test.YtddheiloodfkdaaW2
import Derived.Test.YtddheiloodfkdaaK2
set_option linter.unusedVariables false
set_option linter.unusedSimpArgs false
namespace Go.Proofs.Ytddheiloodfkdaa.K2
open Go.RowKit Go.Proofs.YtddheiloodfkdaaW.PrintWords Go.Proofs.YtddheiloodfkdaaW.PrintLast Go.Proofs.YtddheiloodfkdaaW.PrintMore Go.Proofs.Ytddheiloodfkdaa.M Go.Proofs.Ytddheiloodfkdaa.Q Go.Proofs.Ytddheiloodfkdaa.W1 Go.Proofs.Ytddheiloodfkdaa.L1 Go.Proofs.Ytddheiloodfkdaa.W2
theorem FL_none {p : Nat → Bool} {n : Nat} (h : ∀ i, i < n → p i = false) : FL p n = [] := (FL_congr h).trans (FL_false n)
theorem FL_first {p : Nat → Bool} {m n : Nat} (hm : m < n) (h1 : p m = true) (h0 : ∀ i, i < m → p i = false) : ∃ t, FL p n = (m : Int) :: t := by
  obtain ⟨d, rfl⟩ : ∃ d, n = m + (1 + d) := ⟨n - m - 1, by omega⟩
  rw [FL_add, FL_none h0, FL_add]
  have : FL (fun s => p (m + s)) 1 = [0] := by rw [FL_succ, FL_zero]; simp [h1]
  rw [this]
  exact ⟨_, rfl⟩
theorem ref_First_ev {g0 g1 g2 w0 w1 w2 w3 f : Int} (u0 : 0 ≤ w0 ∧ w0 < 4294967296) (u1 : 0 ≤ w1 ∧ w1 < 256) (u3 : -9223372036854775808 ≤ w3 ∧ w3 ≤ 9223372036854775807) (h : RT g0 g1 g2 w0 w1 w2 w3) (hf : FST g1 g2 w0 w1 w2 f) :
    Ev (fun k => horariumref09_First.f k g0 g1 g2 w0 w1 w2 w3) (f, f + w3 - 1) := by
  obtain ⟨j0, j1, l0, l1, h0, h1, e⟩ := FST_in u0.1 u1.1 h hf
  have hle := FST_le u0.1 u1.1 h hf
  have hm := ref_Moments_f (g0 := g0) (g1 := g1) (g2 := g2) (w2 := w2) u0 u1 u3
  have h' := h
  unfold RT RG TM at h'
  have hML : ∃ t, MOM g0 g1 g2 w0 w1 w2 w3 = f :: t := by
    unfold MOM
    rw [if_pos h]
    obtain ⟨W, rfl⟩ := nat_of (show 0 ≤ g0 by omega)
    obtain ⟨D, rfl⟩ := nat_of (show 0 ≤ g1 by omega)
    obtain ⟨S, rfl⟩ := nat_of (show 0 ≤ g2 by omega)
    obtain ⟨st, rfl⟩ := nat_of (show 0 ≤ w2 by omega)
    obtain ⟨ln, rfl⟩ := nat_of (show 0 ≤ w3 by omega)
    simp only [Int.toNat_natCast]
    have hS : 0 < S := by omega
    have hst : st < S := by omega
    have hj1 : j1 < D := by omega
    have hj0 : j0 < W := by omega
    have e' : f = (((j0 * D + j1) * S + st : Nat) : Int) := by rw [e]; push_cast; rfl
    rw [e']
    have hb : ∀ s, s < S → ((j0 * D + j1) * S + s) / S = j0 * D + j1 := fun s hs => by rw [Nat.add_comm, Nat.add_mul_div_right _ _ hS, Nat.div_eq_of_lt hs, Nat.zero_add]
    have hr : ∀ s, s < S → ((j0 * D + j1) * S + s) % S = s := fun s hs => by rw [Nat.add_comm, Nat.add_mul_mod_self_right, Nat.mod_eq_of_lt hs]
    have hbd : ∀ v d, d < D → (v * D + d) / D = v := fun v d hd => by rw [Nat.add_comm, Nat.add_mul_div_right _ _ (by omega), Nat.div_eq_of_lt hd, Nat.zero_add]
    have hbm : ∀ v d, d < D → (v * D + d) % D = d := fun v d hd => by rw [Nat.add_comm, Nat.add_mul_mod_self_right, Nat.mod_eq_of_lt hd]
    refine FL_first ?_ ?_ ?_
    · have a1 : j0 * D + j1 + 1 ≤ W * D := by
        have : (j0 + 1) * D ≤ W * D := Nat.mul_le_mul_right _ (by omega)
        rw [Nat.succ_mul] at this
        omega
      have a2 : (j0 * D + j1 + 1) * S ≤ W * D * S := Nat.mul_le_mul_right _ a1
      rw [Nat.succ_mul] at a2
      omega
    · unfold pm qb
      rw [hb _ hst, hr _ hst, hbd _ _ hj1, hbm _ _ hj1, l0.1, l1.1]
      simp only [Bool.true_and, Bool.and_eq_true, decide_eq_true_eq]
      omega
    · intro i hi
      unfold pm
      have hq : i / S ≤ j0 * D + j1 := by
        have : i / S < j0 * D + j1 + 1 := Nat.div_lt_of_lt_mul (by rw [Nat.mul_comm, Nat.succ_mul]; omega)
        omega
      by_cases hc : i / S = j0 * D + j1
      · have hi2 := Nat.div_add_mod i S
        rw [hc, Nat.mul_comm] at hi2
        have hlt : i % S < st := by omega
        rw [decide_eq_false (show ¬ st ≤ i % S by omega)]
        simp
      · have hlt : i / S < j0 * D + j1 := by omega
        have hq2 : i / S / D ≤ j0 := by
          have : i / S / D < j0 + 1 := Nat.div_lt_of_lt_mul (by rw [Nat.mul_comm, Nat.succ_mul]; omega)
          omega
        by_cases hc2 : i / S / D = j0
        · have hi2 := Nat.div_add_mod (i / S) D
          rw [hc2, Nat.mul_comm] at hi2
          have hl : i / S % D < j1 := by omega
          unfold qb
          rw [l1.2 _ hl]
          simp
        · have hl : i / S / D < j0 := by omega
          unfold qb
          rw [l0.2 _ hl]
          simp
  obtain ⟨t, ht⟩ := hML
  rw [ht] at hm
  have q8 := Aside0.mk (w64 (n := f + w3) (by omega) (by omega))
  have q9 := Aside0.mk (w64 (n := f + w3 - 1) (by omega) (by omega))
  unfold horariumref09_First.f
  refine Ev.bind hm (Ev.congr (fun k => ?_) (Ev.now _))
  have e1 : ((f :: t).length : Int) = (t.length : Int) + 1 := by simp
  rw [e1, if_neg (by omega), if_pos (by omega)]
  have e2 : rd (f :: t) 0 = f := rfl
  rw [e2, q8.out, q9.out]
end Go.Proofs.Ytddheiloodfkdaa.K2
