/- The number of a moment, and the moment of a number (plain, over the printed functions). -/
import Derived.Test.YtlkmjjdkkkledaaQ12
import Derived.Test.YtlkmjjdkkkledaaQ20
import Derived.Test.YtlkmjjdkkkledaaQ7
import Derived.Test.YtlkmjjdkkkledaaW1
namespace Go.Proofs.Ytlkmjjdkkkledaa.W11
open Go.RowKit Go.Proofs.YtlkmjjdkkkledaaW.PrintWords Go.Proofs.YtlkmjjdkkkledaaW.PrintLast Go.Proofs.YtlkmjjdkkkledaaW.PrintMore Go.Proofs.Ytlkmjjdkkkledaa.M Go.Proofs.Ytlkmjjdkkkledaa.Q Go.Proofs.Ytlkmjjdkkkledaa.W1
/-- Is a number one of a moment? -/
def IN (g0 g1 g2 m : Int) : Prop := RG g0 g1 g2 ∧ 0 ≤ m ∧ m < g0 * g1 * g2
instance (g0 g1 g2 m : Int) : Decidable (IN g0 g1 g2 m) := by unfold IN; infer_instance
/-- The moment of a number. -/
def OF (g0 g1 g2 m : Int) : Int × Int × Int × Bool := if IN g0 g1 g2 m then (m / g2 / g1, m / g2 % g1, m % g2, true) else (0, 0, 0, false)
theorem RG_bound {a b c : Int} (h : RG a b c) : 0 ≤ a * b ∧ a * b ≤ 140 ∧ 0 ≤ a * b * c ∧ a * b * c ≤ 13440 := by
  unfold RG at h
  have h1 : a * b ≤ 20 * 7 := Int.mul_le_mul (by omega) (by omega) (by omega) (by omega)
  have h2 : 0 ≤ a * b := Int.mul_nonneg (by omega) (by omega)
  have h3 : a * b * c ≤ 140 * 96 := Int.mul_le_mul h1 (by omega) (by omega) (by omega)
  have h4 : 0 ≤ a * b * c := Int.mul_nonneg h2 (by omega)
  omega
theorem div_bound {m c : Int} (h0 : 0 ≤ m) (h1 : m ≤ 13440) (hc : 1 ≤ c) : 0 ≤ m / c ∧ m / c ≤ 13440 :=
  ⟨Int.ediv_nonneg h0 (by omega), Int.le_trans (Int.ediv_le_self _ h0) h1⟩
theorem of_main {g0 g1 g2 m : Int} (h : IN g0 g1 g2 m) : (wrap64 (Int.tdiv (wrap64 (Int.tdiv m g2)) g1), Int.tmod (wrap64 (Int.tdiv m g2)) g1, Int.tmod m g2, true) = (m / g2 / g1, m / g2 % g1, m % g2, true) := by
  obtain ⟨hg, h0, h1⟩ := h
  have hb := RG_bound hg
  unfold RG at hg
  have d1 := div_bound (m := m) (c := g2) h0 (by omega) (by omega)
  have d2 := div_bound (m := m / g2) (c := g1) d1.1 d1.2 (by omega)
  have w1 := Aside0.mk (w64 (n := m / g2) (by omega) (by omega))
  have w2 := Aside0.mk (w64 (n := m / g2 / g1) (by omega) (by omega))
  rw [Int.tdiv_eq_ediv_of_nonneg h0, w1.out, Int.tdiv_eq_ediv_of_nonneg d1.1, w2.out, Int.tmod_eq_emod_of_nonneg d1.1, Int.tmod_eq_emod_of_nonneg h0]
theorem when_Of_f (g0 g1 g2 m : Int) : when_Of.f g0 g1 g2 m = some (OF g0 g1 g2 m) := by
  unfold when_Of.f OF
  simp only [when_RightGrid_f, Option.bind_some, decide_eq_true_eq]
  by_cases hg : RG g0 g1 g2
  · have hb := RG_bound hg
    have w1 := Aside0.mk (w64 (n := g0 * g1) (by omega) (by omega))
    have w2 := Aside0.mk (w64 (n := g0 * g1 * g2) (by omega) (by omega))
    rw [if_pos hg, w1.out, w2.out]
    have hg' := hg
    unfold RG at hg'
    by_cases h0 : m < 0
    · rw [if_pos h0, if_neg (fun h => by have := h.2.1; omega)]
    · rw [if_neg h0]
      by_cases h1 : m ≥ g0 * g1 * g2
      · rw [if_pos h1, if_neg (fun h => by have := h.2.2; omega)]
      · have hi : IN g0 g1 g2 m := ⟨hg, by omega, by omega⟩
        rw [if_neg h1, if_neg (by omega), if_neg (by omega), if_pos hi, of_main hi]
  · rw [if_neg hg, if_neg (fun h => hg h.1)]
theorem ref_Of_f (g0 g1 g2 m : Int) : horariumref09_Of.f g0 g1 g2 m = some (OF g0 g1 g2 m) := by
  unfold horariumref09_Of.f OF
  rw [ref_All_f]
  by_cases h0 : m < 0
  · rw [if_pos h0, if_neg (fun h => by have := h.2.1; omega)]
  · rw [if_neg h0, Option.bind_some]
    by_cases hg : RG g0 g1 g2
    · have hg' := hg
      unfold RG at hg'
      rw [if_pos hg]
      by_cases h1 : m ≥ g0 * g1 * g2
      · rw [if_pos h1, if_neg (fun h => by have := h.2.2; omega)]
      · have hi : IN g0 g1 g2 m := ⟨hg, by omega, by omega⟩
        rw [if_neg h1, if_neg (by omega), if_neg (by omega), if_pos hi, of_main hi]
    · rw [if_neg hg, if_pos (by omega), if_neg (fun h => hg h.1)]
/-- The number of a moment. -/
def MO (g0 g1 g2 a b c : Int) : Int := if RG g0 g1 g2 ∧ (0 ≤ a ∧ a < g0) ∧ (0 ≤ b ∧ b < g1) ∧ (0 ≤ c ∧ c < g2) then (a * g1 + b) * g2 + c else -1
theorem mo_main {g0 g1 g2 a b c : Int} (h : RG g0 g1 g2 ∧ (0 ≤ a ∧ a < g0) ∧ (0 ≤ b ∧ b < g1) ∧ (0 ≤ c ∧ c < g2)) :
    wrap64 ((wrap64 ((wrap64 ((wrap64 (a * g1)) + b)) * g2)) + c) = (a * g1 + b) * g2 + c := by
  obtain ⟨hg, ha, hb, hc⟩ := h
  unfold RG at hg
  have h1 : a * g1 ≤ 20 * 7 := Int.mul_le_mul (by omega) (by omega) (by omega) (by omega)
  have h2 : 0 ≤ a * g1 := Int.mul_nonneg (by omega) (by omega)
  have h3 : (a * g1 + b) * g2 ≤ 147 * 96 := Int.mul_le_mul (by omega) (by omega) (by omega) (by omega)
  have h4 : 0 ≤ (a * g1 + b) * g2 := Int.mul_nonneg (by omega) (by omega)
  have w1 := Aside0.mk (w64 (n := a * g1) (by omega) (by omega))
  have w2 := Aside0.mk (w64 (n := a * g1 + b) (by omega) (by omega))
  have w3 := Aside0.mk (w64 (n := (a * g1 + b) * g2) (by omega) (by omega))
  have w4 := Aside0.mk (w64 (n := (a * g1 + b) * g2 + c) (by omega) (by omega))
  rw [w1.out, w2.out, w3.out, w4.out]
theorem when_Moment_f (g0 g1 g2 a b c : Int) : when_Moment.f g0 g1 g2 a b c = some (MO g0 g1 g2 a b c) := by
  unfold when_Moment.f MO
  simp only [when_RightGrid_f, within_f, Option.bind_some, decide_eq_true_eq]
  by_cases hg : RG g0 g1 g2
  · have hg' := hg
    unfold RG at hg'
    have w1 := Aside0.mk (w64 (n := g0 - 1) (by omega) (by omega))
    have w2 := Aside0.mk (w64 (n := g1 - 1) (by omega) (by omega))
    have w3 := Aside0.mk (w64 (n := g2 - 1) (by omega) (by omega))
    rw [if_pos hg, w1.out, w2.out, w3.out]
    by_cases ha : 0 ≤ a ∧ a ≤ g0 - 1
    · rw [if_pos ha]
      by_cases hb : 0 ≤ b ∧ b ≤ g1 - 1
      · rw [if_pos hb]
        by_cases hc : 0 ≤ c ∧ c ≤ g2 - 1
        · have hi : RG g0 g1 g2 ∧ (0 ≤ a ∧ a < g0) ∧ (0 ≤ b ∧ b < g1) ∧ (0 ≤ c ∧ c < g2) := ⟨hg, by omega, by omega, by omega⟩
          rw [if_pos hc, if_pos hi, mo_main hi]
        · rw [if_neg hc, if_neg (fun h => hc (by omega))]
      · rw [if_neg hb, if_neg (fun h => hb (by omega))]
    · rw [if_neg ha, if_neg (fun h => ha (by omega))]
  · rw [if_neg hg, if_neg (fun h => hg h.1)]
theorem ref_Moment_f (g0 g1 g2 a b c : Int) : horariumref09_Moment.f g0 g1 g2 a b c = some (MO g0 g1 g2 a b c) := by
  unfold horariumref09_Moment.f MO
  simp only [ref_RightGrid_f, Option.bind_some, decide_eq_true_eq]
  by_cases hi : RG g0 g1 g2 ∧ (0 ≤ a ∧ a < g0) ∧ (0 ≤ b ∧ b < g1) ∧ (0 ≤ c ∧ c < g2)
  · rw [if_pos hi, if_pos hi.1, if_neg (by omega), if_neg (by omega), if_neg (by omega), if_neg (by omega), if_neg (by omega), if_neg (by omega), mo_main hi]
  · rw [if_neg hi]
    by_cases hg : RG g0 g1 g2
    · rw [if_pos hg]
      repeat' split
      all_goals first | rfl | exact absurd ⟨hg, by omega, by omega, by omega⟩ hi
    · rw [if_neg hg]
/-- The number of a number's moment is it. -/
theorem MO_OF {g0 g1 g2 m : Int} (h : IN g0 g1 g2 m) : MO g0 g1 g2 (m / g2 / g1) (m / g2 % g1) (m % g2) = m := by
  obtain ⟨hg, h0, h1⟩ := h
  have hb := RG_bound hg
  have hg' := hg
  unfold RG at hg'
  have d1 := div_bound (m := m) (c := g2) h0 (by omega) (by omega)
  have d2 := div_bound (m := m / g2) (c := g1) d1.1 d1.2 (by omega)
  have e1 : m / g2 < g0 * g1 := Int.ediv_lt_of_lt_mul (by omega) h1
  have e2 : m / g2 / g1 < g0 := Int.ediv_lt_of_lt_mul (by omega) e1
  have r1 := Int.emod_nonneg (m / g2) (show g1 ≠ 0 by omega)
  have r2 := Int.emod_lt_of_pos (m / g2) (show 0 < g1 by omega)
  have r3 := Int.emod_nonneg m (show g2 ≠ 0 by omega)
  have r4 := Int.emod_lt_of_pos m (show 0 < g2 by omega)
  unfold MO
  rw [if_pos ⟨hg, ⟨d2.1, e2⟩, ⟨r1, r2⟩, ⟨r3, r4⟩⟩]
  have key : ∀ x y : Int, x / y * y + x % y = x := fun x y => by
    have h := Int.emod_add_mul_ediv x y
    rw [Int.mul_comm] at h
    omega
  rw [key, key]
end Go.Proofs.Ytlkmjjdkkkledaa.W11
