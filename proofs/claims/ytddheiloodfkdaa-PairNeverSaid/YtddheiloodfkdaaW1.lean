/- What the small functions of package when, and of the document's answer, answer: grids, times, bits (plain, over the printed functions). -/
import Derived.Test.YtddheiloodfkdaaQ1
import Derived.Test.YtddheiloodfkdaaQ14
import Derived.Test.YtddheiloodfkdaaQ15
import Derived.Test.YtddheiloodfkdaaQ16
import Derived.Test.YtddheiloodfkdaaQ19
import Derived.Test.YtddheiloodfkdaaQ2
import Derived.Test.YtddheiloodfkdaaM
namespace Go.Proofs.Ytddheiloodfkdaa.W1
open Go.RowKit Go.Proofs.YtddheiloodfkdaaW.PrintWords Go.Proofs.YtddheiloodfkdaaW.PrintLast Go.Proofs.YtddheiloodfkdaaW.PrintMore Go.Proofs.Ytddheiloodfkdaa.M Go.Proofs.Ytddheiloodfkdaa.Q

/-- A grid that may be. -/
def RG (a b c : Int) : Prop := 1 ≤ a ∧ a ≤ 20 ∧ 1 ≤ b ∧ b ≤ 7 ∧ 1 ≤ c ∧ c ≤ 96
instance (a b c : Int) : Decidable (RG a b c) := by unfold RG; infer_instance
/-- A time whose slots are ones. -/
def TM (s l : Int) : Prop := 0 ≤ s ∧ s ≤ 96 ∧ 1 ≤ l ∧ l ≤ 96
instance (s l : Int) : Decidable (TM s l) := by unfold TM; infer_instance
/-- A time that may be in a grid. -/
def RT (g0 g1 g2 w0 w1 w2 w3 : Int) : Prop := RG g0 g1 g2 ∧ TM w2 w3 ∧ w2 + w3 ≤ g2 ∧ w0 ≠ 0 ∧ w0 < 2 ^ g0.toNat ∧ w1 ≠ 0 ∧ w1 < 2 ^ g1.toNat
instance (g0 g1 g2 w0 w1 w2 w3 : Int) : Decidable (RT g0 g1 g2 w0 w1 w2 w3) := by unfold RT; infer_instance

theorem within_f (a b c : Int) : when_within.f a b c = some (decide (b ≤ a ∧ a ≤ c)) := by
  unfold when_within.f
  by_cases h : b ≤ a <;> simp [h]
theorem when_RightGrid_f (a b c : Int) : when_RightGrid.f a b c = some (decide (RG a b c)) := by
  unfold when_RightGrid.f
  simp only [within_f, Option.bind_some, RG, decide_eq_true_eq]
  repeat' split
  all_goals (first | exact congrArg some (decide_eq_decide.mpr (by omega)) | exact congrArg some (decide_eq_false (by omega)).symm)
theorem ref_RightGrid_f (a b c : Int) : horariumref09_RightGrid.f a b c = some (decide (RG a b c)) := by
  unfold horariumref09_RightGrid.f RG
  repeat' split
  all_goals (first | exact congrArg some (decide_eq_decide.mpr (by omega)) | exact congrArg some (decide_eq_false (by omega)).symm)
theorem when_tame_f (a b c d : Int) : when_tame.f a b c d = some (decide (TM c d)) := by
  unfold when_tame.f
  simp only [within_f, Option.bind_some, TM, decide_eq_true_eq]
  repeat' split
  all_goals (first | exact congrArg some (decide_eq_decide.mpr (by omega)) | exact congrArg some (decide_eq_false (by omega)).symm)
theorem ref_Tame_f (a b c d : Int) : horariumref09_Tame.f a b c d = some (decide (TM c d)) := by
  unfold horariumref09_Tame.f TM
  repeat' split
  all_goals (first | exact congrArg some (decide_eq_decide.mpr (by omega)) | exact congrArg some (decide_eq_false (by omega)).symm)
theorem shr_pow {k : IntKind} {x n : Int} (h0 : 0 ≤ x) (h1 : x < 2 ^ k.bits) (hn : 0 ≤ n) : shr k x n = 0 ↔ x < 2 ^ n.toNat := by
  obtain ⟨a, rfl⟩ := Int.eq_ofNat_of_zero_le h0
  obtain ⟨j, rfl⟩ := Int.eq_ofNat_of_zero_le hn
  rw [shr_nat k a j (by exact_mod_cast h1), Nat.shiftRight_eq_div_pow, Int.toNat_natCast]
  have hp : 0 < 2 ^ j := Nat.two_pow_pos j
  have h2 : ((a : Int) < 2 ^ j) ↔ a < 2 ^ j := by exact_mod_cast Iff.rfl
  rw [h2]
  have h3 : a / 2 ^ j = 0 ↔ a < 2 ^ j := by rw [Nat.div_eq_zero_iff]; omega
  rw [← h3]
  omega
theorem shr_i64 {x n : Int} (h0 : 0 ≤ x) (h1 : x < 256) (hn : 0 ≤ n) : shr .i64 x n = 0 ↔ x < 2 ^ n.toNat :=
  shr_pow (k := .i64) h0 (by simp [IntKind.bits]; omega) hn
theorem when_Right_f {g0 g1 g2 w0 w1 w2 w3 : Int} (u0 : 0 ≤ w0 ∧ w0 < 4294967296) (u1 : 0 ≤ w1 ∧ w1 < 256) :
    when_Right.f g0 g1 g2 w0 w1 w2 w3 = some (decide (RT g0 g1 g2 w0 w1 w2 w3)) := by
  unfold when_Right.f
  simp only [when_RightGrid_f, when_tame_f, Option.bind_some, decide_eq_true_eq]
  by_cases hg : RG g0 g1 g2
  · by_cases ht : TM w2 w3
    · have hg' := hg
      have ht' := ht
      unfold RG at hg'
      unfold TM at ht'
      rw [if_pos hg, if_pos ht, w64 (by omega) (by omega), w64 (n := w1) (by omega) (by omega)]
      rw [if_pos (show 0 ≤ g0 by omega), if_pos (show 0 ≤ g1 by omega)]
      have e0 := shr_pow (k := .u32) u0.1 (by simp [IntKind.bits]; omega) (show 0 ≤ g0 by omega)
      have e1 := shr_i64 u1.1 u1.2 (show 0 ≤ g1 by omega)
      unfold RT
      by_cases h1 : w2 + w3 ≤ g2
      · rw [if_neg (by omega)]
        by_cases h2 : w0 = 0
        · rw [if_pos h2]; simp [h2]
        · rw [if_neg h2]
          by_cases h3 : w0 < 2 ^ g0.toNat
          · rw [if_pos (e0.mpr h3)]
            by_cases h4 : w1 = 0
            · rw [if_pos h4]; simp [h4]
            · rw [if_neg h4]
              by_cases h5 : w1 < 2 ^ g1.toNat
              · simp [e1.mpr h5, hg, ht, h1, h2, h3, h4, h5]
              · have : ¬ shr .i64 w1 g1 = 0 := fun h => h5 (e1.mp h)
                simp [this, h5]
          · rw [if_neg (fun h => h3 (e0.mp h))]; simp [h3]
      · rw [if_pos (by omega)]; simp [h1]
    · rw [if_pos hg, if_neg ht]; simp [RT, ht]
  · rw [if_neg hg]; simp [RT, hg]
theorem ref_bit_f {x i : Int} (u : 0 ≤ x ∧ x < 4294967296) (hi : 0 ≤ i ∧ i < 18446744073709551616) : horariumref09_bit.f x i = some (tb x i) := by
  unfold horariumref09_bit.f
  rw [wrap_u64, Int.emod_eq_of_lt hi.1 hi.2, if_pos hi.1, bit_ref u.1 u.2 hi.1]
theorem pow_tb {x j : Int} {m : Nat} (h0 : 0 ≤ x) (h1 : x < 2 ^ m) (hj : 0 ≤ j) : x < 2 ^ j.toNat ↔ ∀ i : Int, j ≤ i → i < m → tb x i = false := by
  obtain ⟨a, rfl⟩ := Int.eq_ofNat_of_zero_le h0
  obtain ⟨q, rfl⟩ := Int.eq_ofNat_of_zero_le hj
  have ha : a < 2 ^ m := by exact_mod_cast h1
  have h2 : ((a : Int) < 2 ^ (q : Int).toNat) ↔ a < 2 ^ q := by rw [Int.toNat_natCast]; exact_mod_cast Iff.rfl
  rw [h2, lt_pow_iff ha]
  constructor
  · intro h i hi him
    obtain ⟨i, rfl⟩ := Int.eq_ofNat_of_zero_le (show 0 ≤ i by omega)
    rw [tb_nat]
    exact h i (by omega) (by omega)
  · intro h i hi him
    rw [← tb_nat]
    exact h i (by omega) (by omega)
/-- The loop over the days' bits. -/
theorem ref_Right_l1 {w0 w1 w2 w3 : Int} (u1 : 0 ≤ w1 ∧ w1 < 256) (d : Nat) : ∀ i : Int, 0 ≤ i → (8 - i).toNat = d →
    ∃ r, Ev (fun k => horariumref09_Right.l1 k i w0 w1 w2 w3) r ∧ (r = true ↔ ∀ j : Int, i ≤ j → j < 8 → tb w1 j = false) := by
  induction d with
  | zero =>
    intro i h0 hd
    refine ⟨true, Ev.step (f := fun _ => some true) (fun k => ?_) (Ev.now true), by simp; intro j h1 h2; omega⟩
    simp only [horariumref09_Right.l1]
    rw [if_neg (by omega)]
  | succ d ih =>
    intro i h0 hd
    have hi : i < 8 := by omega
    have hm : w1 % 4294967296 = w1 := by omega
    have hb := ref_bit_f (x := w1) (i := i) ⟨u1.1, by omega⟩ ⟨h0, by omega⟩
    cases h : tb w1 i with
    | true =>
      refine ⟨false, Ev.step (f := fun _ => some false) (fun k => ?_) (Ev.now false), ?_⟩
      · simp only [horariumref09_Right.l1]
        rw [if_pos hi, hm, hb, Option.bind_some, if_pos h]
      · simp only [Bool.false_eq_true, false_iff]
        intro hc
        rw [hc i (by omega) hi] at h
        cases h
    | false =>
      obtain ⟨r, hr, e⟩ := ih (i + 1) (by omega) (by omega)
      refine ⟨r, Ev.step (fun k => ?_) hr, ?_⟩
      · simp only [horariumref09_Right.l1]
        rw [if_pos hi, hm, hb, Option.bind_some, if_neg (by rw [h]; decide), w64 (by omega) (by omega)]
      · rw [e]
        constructor
        · intro hc j h1 h2
          by_cases hj : j = i
          · rw [hj]; exact h
          · exact hc j (by omega) h2
        · intro hc j h1 h2
          exact hc j (by omega) h2
theorem ref_Right_l0 {g0 g1 g2 w0 w1 w2 w3 : Int} (u0 : 0 ≤ w0 ∧ w0 < 4294967296) (u1 : 0 ≤ w1 ∧ w1 < 256) (hg1 : 0 ≤ g1 ∧ g1 ≤ 8) (d : Nat) : ∀ i : Int, 0 ≤ i → (32 - i).toNat = d →
    ∃ r, Ev (fun k => horariumref09_Right.l0 k i g0 g1 g2 w0 w1 w2 w3) r ∧ (r = true ↔ (∀ j : Int, i ≤ j → j < 32 → tb w0 j = false) ∧ (∀ j : Int, g1 ≤ j → j < 8 → tb w1 j = false)) := by
  induction d with
  | zero =>
    intro i h0 hd
    obtain ⟨r, hr, e⟩ := ref_Right_l1 (w0 := w0) (w2 := w2) (w3 := w3) u1 _ g1 hg1.1 rfl
    refine ⟨r, Ev.step (fun k => ?_) hr, ?_⟩
    · simp only [horariumref09_Right.l0]
      rw [if_neg (by omega)]
    · rw [e]
      constructor
      · intro h
        exact ⟨fun j h1 h2 => by omega, h⟩
      · intro h
        exact h.2
  | succ d ih =>
    intro i h0 hd
    have hi : i < 32 := by omega
    have hb := ref_bit_f (x := w0) (i := i) u0 ⟨h0, by omega⟩
    cases h : tb w0 i with
    | true =>
      refine ⟨false, Ev.step (f := fun _ => some false) (fun k => ?_) (Ev.now false), ?_⟩
      · simp only [horariumref09_Right.l0]
        rw [if_pos hi, hb, Option.bind_some, if_pos h]
      · simp only [Bool.false_eq_true, false_iff]
        intro hc
        rw [hc.1 i (by omega) hi] at h
        cases h
    | false =>
      obtain ⟨r, hr, e⟩ := ih (i + 1) (by omega) (by omega)
      refine ⟨r, Ev.step (fun k => ?_) hr, ?_⟩
      · simp only [horariumref09_Right.l0]
        rw [if_pos hi, hb, Option.bind_some, if_neg (by rw [h]; decide), w64 (by omega) (by omega)]
      · rw [e]
        constructor
        · intro hc
          refine ⟨fun j h1 h2 => ?_, hc.2⟩
          by_cases hj : j = i
          · rw [hj]; exact h
          · exact hc.1 j (by omega) h2
        · intro hc
          exact ⟨fun j h1 h2 => hc.1 j (by omega) h2, hc.2⟩
theorem ref_Right_j0 {g0 g1 g2 w0 w1 w2 w3 : Int} : Ev (fun k => horariumref09_Right.j0 k true g0 g1 g2 w0 w1 w2 w3) false := by
  refine Ev.step (f := fun _ => some false) (fun k => ?_) (Ev.now false)
  simp only [horariumref09_Right.j0]
  rw [if_pos trivial]
theorem ref_Right_f {g0 g1 g2 w0 w1 w2 w3 : Int} (u0 : 0 ≤ w0 ∧ w0 < 4294967296) (u1 : 0 ≤ w1 ∧ w1 < 256) (u3 : -9223372036854775808 ≤ w3 ∧ w3 ≤ 9223372036854775807) :
    Ev (fun k => horariumref09_Right.f k g0 g1 g2 w0 w1 w2 w3) (decide (RT g0 g1 g2 w0 w1 w2 w3)) := by
  unfold horariumref09_Right.f
  simp only [ref_RightGrid_f, Option.bind_some, decide_eq_true_eq]
  by_cases hg : RG g0 g1 g2
  · simp only [if_pos hg]
    have hg' := hg
    unfold RG at hg'
    by_cases h1 : w0 = 0
    · simp only [if_pos h1, RT]; simpa [h1] using ref_Right_j0
    simp only [if_neg h1]
    by_cases h2 : w1 = 0
    · simp only [if_pos h2, RT]; simpa [h2] using ref_Right_j0
    simp only [if_neg h2]
    by_cases h3 : w2 < 0
    · simp only [if_pos h3]
      have : ¬ RT g0 g1 g2 w0 w1 w2 w3 := fun h => by have := h.2.1; unfold TM at this; omega
      simpa [this] using ref_Right_j0
    simp only [if_neg h3]
    by_cases h4 : w3 < 1
    · simp only [if_pos h4]
      have : ¬ RT g0 g1 g2 w0 w1 w2 w3 := fun h => by have := h.2.1; unfold TM at this; omega
      simpa [this] using ref_Right_j0
    simp only [if_neg h4]
    by_cases h5 : w2 > g2
    · simp only [if_pos h5]
      have : ¬ RT g0 g1 g2 w0 w1 w2 w3 := fun h => by have := h.2.1; have := h.2.2.1; unfold TM at *; omega
      simpa [this] using ref_Right_j0
    simp only [if_neg h5]
    rw [w64 (n := g2 - w2) (by omega) (by omega)]
    by_cases h6 : w3 > g2 - w2
    · have : ¬ RT g0 g1 g2 w0 w1 w2 w3 := fun h => by have := h.2.2.1; omega
      simpa [this, h6] using ref_Right_j0
    · obtain ⟨r, hr, e⟩ := ref_Right_l0 (g0 := g0) (g2 := g2) (w2 := w2) (w3 := w3) u0 u1 (g1 := g1) ⟨by omega, by omega⟩ _ g0 (by omega) rfl
      have p0 := pow_tb (x := w0) (j := g0) (m := 32) u0.1 (by omega) (by omega)
      have p1 := pow_tb (x := w1) (j := g1) (m := 8) u1.1 (by omega) (by omega)
      have hr' : r = decide (RT g0 g1 g2 w0 w1 w2 w3) := by
        rw [Bool.eq_iff_iff, e, decide_eq_true_eq]
        unfold RT
        rw [p0, p1]
        constructor
        · intro h
          exact ⟨hg, by unfold TM; omega, by omega, h1, h.1, h2, h.2⟩
        · intro h
          exact ⟨h.2.2.2.2.1, h.2.2.2.2.2.2⟩
      rw [← hr']
      refine Ev.step (fun k => ?_) hr
      simp only [horariumref09_Right.j0]
      rw [if_neg (by simpa using h6)]
  · simp only [if_neg hg]
    have : ¬ RT g0 g1 g2 w0 w1 w2 w3 := fun h => hg h.1
    simpa [this] using ref_Right_j0
theorem ref_All_f (a b c : Int) : horariumref09_All.f a b c = some (if RG a b c then a * b * c else 0) := by
  unfold horariumref09_All.f
  simp only [ref_RightGrid_f, Option.bind_some, decide_eq_true_eq]
  by_cases hg : RG a b c
  · have hg' := hg
    unfold RG at hg'
    have h1 : a * b ≤ 20 * 7 := Int.mul_le_mul (by omega) (by omega) (by omega) (by omega)
    have h2 : 0 ≤ a * b := Int.mul_nonneg (by omega) (by omega)
    have h3 : a * b * c ≤ 140 * 96 := Int.mul_le_mul h1 (by omega) (by omega) (by omega)
    have h4 : 0 ≤ a * b * c := Int.mul_nonneg h2 (by omega)
    rw [if_pos hg, if_pos hg, w64 (n := a * b) (by omega) (by omega), w64 (by omega) (by omega)]
  · rw [if_neg hg, if_neg hg]
end Go.Proofs.Ytddheiloodfkdaa.W1
