/- Rows of a day's slots, plain: no program in sight. -/
import Derived.Test.YtcdcocnljnlkfaaQ0
import Derived.Test.YtcdcocnljnlkfaaM
set_option linter.unusedVariables false
set_option linter.unusedSimpArgs false
namespace Go.Proofs.Ytcdcocnljnlkfaa.P1
open Go.RowKit Go.Proofs.YtcdcocnljnlkfaaW.PrintWords Go.Proofs.Ytcdcocnljnlkfaa.M Go.Proofs.Ytcdcocnljnlkfaa.Q
def ROW (p : Nat → Bool) (S d : Nat) : List Bool := (List.range S).map fun s => p (d * S + s)
def ROWS (p : Nat → Bool) (S n : Nat) : List (List Bool) := (List.range n).map (ROW p S)
theorem ROW_len (p : Nat → Bool) (S d : Nat) : (ROW p S d).length = S := by simp [ROW]
theorem ROWS_len (p : Nat → Bool) (S n : Nat) : (ROWS p S n).length = n := by simp [ROWS]
theorem ROW_get (p : Nat → Bool) (S d i : Nat) (h : i < (ROW p S d).length) : (ROW p S d)[i] = p (d * S + i) := by simp [ROW]
theorem ROWS_get (p : Nat → Bool) (S n i : Nat) (h : i < (ROWS p S n).length) : (ROWS p S n)[i] = ROW p S i := by simp [ROWS]
theorem ROW_at {p : Nat → Bool} {S d i : Nat} (h : i < S) : rdOf false (ROW p S d) (i : Int) = p (d * S + i) := by
  unfold rdOf ROW
  rw [Int.toNat_natCast, List.getD_eq_getElem?_getD, List.getElem?_map, List.getElem?_range h]
  rfl
theorem ROWS_at {p : Nat → Bool} {S n d : Nat} (h : d < n) : rd_L7 (ROWS p S n) (d : Int) = ROW p S d := by
  unfold rd_L7 ROWS
  rw [Int.toNat_natCast, List.getD_eq_getElem?_getD, List.getElem?_map, List.getElem?_range h]
  rfl
theorem ROWS_congr {p q : Nat → Bool} {S n : Nat} (h : ∀ m, m < n * S → p m = q m) : ROWS p S n = ROWS q S n := by
  unfold ROWS
  refine List.map_congr_left fun d hd => ?_
  rw [List.mem_range] at hd
  unfold ROW
  refine List.map_congr_left fun s hs => h _ ?_
  rw [List.mem_range] at hs
  have := Nat.mul_le_mul_right S (show d + 1 ≤ n by omega)
  rw [Nat.succ_mul] at this
  omega
theorem ROWS_false (S n : Nat) : ROWS (fun _ => false) S n = List.replicate n (List.replicate S false) := by
  refine List.ext_getElem (by simp [ROWS_len]) fun i h1 h2 => ?_
  rw [ROWS_get, List.getElem_replicate]
  refine List.ext_getElem (by simp [ROW_len]) fun j h3 h4 => ?_
  rw [ROW_get, List.getElem_replicate]
theorem ROWS_set {p : Nat → Bool} {S n m : Nat} (hS : 0 < S) (h : m < n * S) : (ROWS p S n).set (m / S) ((ROW p S (m / S)).set (m % S) true) = ROWS (fun x => p x || decide (x = m)) S n := by
  refine List.ext_getElem (by simp [ROWS_len]) fun i h1 h2 => ?_
  rw [List.getElem_set, ROWS_get, ROWS_get]
  have hm : m / S * S + m % S = m := by rw [Nat.mul_comm]; exact Nat.div_add_mod m S
  by_cases hi : m / S = i
  · rw [if_pos hi]
    subst hi
    refine List.ext_getElem (by simp [ROW_len]) fun j h3 h4 => ?_
    rw [List.getElem_set, ROW_get, ROW_get]
    by_cases hj : m % S = j
    · rw [if_pos hj, ← hj, hm]; simp
    · rw [if_neg hj, decide_eq_false (by omega), Bool.or_false]
  · rw [if_neg hi]
    unfold ROW
    refine List.map_congr_left fun s hs => ?_
    rw [List.mem_range] at hs
    show _ = (p (i * S + s) || decide (i * S + s = m))
    rw [decide_eq_false, Bool.or_false]
    intro he
    apply hi
    rw [← he, Nat.add_comm, Nat.add_mul_div_right _ _ hS, Nat.div_eq_of_lt hs, Nat.zero_add]
/-! ### How many, the first, the last -/
def CN (r : Nat → Bool) : Nat → Nat
  | 0 => 0
  | n + 1 => CN r n + if r n = true then 1 else 0
def FS (r : Nat → Bool) : Nat → Int
  | 0 => -1
  | n + 1 => if FS r n < 0 then (if r n = true then (n : Int) else -1) else FS r n
def LS (r : Nat → Bool) : Nat → Int
  | 0 => -2
  | n + 1 => if r n = true then (n : Int) else LS r n
def SP (r : Nat → Bool) (n : Nat) : Int := max (LS r n - FS r n + 1) 0
theorem CN_le (r : Nat → Bool) (n : Nat) : CN r n ≤ n := by
  induction n with
  | zero => exact Nat.le_refl _
  | succ n ih => unfold CN; split <;> omega
theorem FS_facts (r : Nat → Bool) (n : Nat) : (FS r n = -1 ∧ LS r n = -2 ∧ CN r n = 0 ∧ ∀ i, i < n → r i = false) ∨
    (0 ≤ FS r n ∧ FS r n ≤ LS r n ∧ LS r n < n ∧ r (FS r n).toNat = true ∧ r (LS r n).toNat = true ∧ 1 ≤ CN r n ∧ (CN r n : Int) ≤ LS r n - FS r n + 1 ∧ ∀ i : Nat, i < n → r i = true → FS r n ≤ i ∧ (i : Int) ≤ LS r n) := by
  induction n with
  | zero => exact Or.inl ⟨rfl, rfl, rfl, fun i hi => by omega⟩
  | succ n ih =>
    rcases ih with ⟨h1, h2, h3, h4⟩ | ⟨h1, h2, h3, h4, h5, h6, h7, h8⟩
    · cases hr : r n with
      | false =>
        refine Or.inl ⟨?_, ?_, ?_, fun i hi => ?_⟩
        · simp [FS, h1, hr]
        · simp [LS, h2, hr]
        · simp [CN, h3, hr]
        · by_cases e : i = n
          · rw [e]; exact hr
          · exact h4 i (by omega)
      | true =>
        have e1 : FS r (n + 1) = n := by simp [FS, h1, hr]
        have e2 : LS r (n + 1) = n := by simp [LS, hr]
        have e3 : CN r (n + 1) = 1 := by simp [CN, h3, hr]
        refine Or.inr ?_
        rw [e1, e2, e3, Int.toNat_natCast]
        refine ⟨by omega, by omega, by omega, hr, hr, by omega, by omega, fun i hi hi2 => ?_⟩
        by_cases e : i = n
        · omega
        · rw [h4 i (by omega)] at hi2; cases hi2
    · have e1 : FS r (n + 1) = FS r n := by rw [FS, if_neg (by omega)]
      cases hr : r n with
      | false =>
        have e2 : LS r (n + 1) = LS r n := by simp [LS, hr]
        have e3 : CN r (n + 1) = CN r n := by simp [CN, hr]
        refine Or.inr ?_
        rw [e1, e2, e3]
        refine ⟨h1, h2, by omega, h4, h5, h6, h7, fun i hi hi2 => ?_⟩
        by_cases e : i = n
        · rw [e, hr] at hi2; cases hi2
        · exact h8 i (by omega) hi2
      | true =>
        have e2 : LS r (n + 1) = n := by simp [LS, hr]
        have e3 : CN r (n + 1) = CN r n + 1 := by simp [CN, hr]
        refine Or.inr ?_
        rw [e1, e2, e3, Int.toNat_natCast]
        refine ⟨h1, by omega, by omega, h4, hr, by omega, by omega, fun i hi hi2 => ?_⟩
        by_cases e : i = n
        · omega
        · have := h8 i (by omega) hi2
          omega
theorem CN_mono {r q : Nat → Bool} (h : ∀ i, r i = true → q i = true) (n : Nat) : CN r n ≤ CN q n := by
  induction n with
  | zero => exact Nat.le_refl _
  | succ n ih =>
    unfold CN
    cases hr : r n with
    | false => simp; omega
    | true => rw [h n hr]; simp; omega
theorem CN_SP (r : Nat → Bool) (n : Nat) : (CN r n : Int) ≤ SP r n ∧ (CN r n = 0 ↔ SP r n = 0) := by
  unfold SP
  rcases FS_facts r n with ⟨h1, h2, h3, h4⟩ | ⟨h1, h2, h3, h4, h5, h6, h7, h8⟩ <;> omega
theorem SP_mono {r q : Nat → Bool} (h : ∀ i, r i = true → q i = true) (n : Nat) : SP r n ≤ SP q n := by
  unfold SP
  rcases FS_facts r n with ⟨h1, h2, h3, h4⟩ | ⟨h1, h2, h3, h4, h5, h6, h7, h8⟩
  · omega
  · rcases FS_facts q n with ⟨k1, k2, k3, k4⟩ | ⟨k1, k2, k3, k4, k5, k6, k7, k8⟩
    · have := h _ h4
      rw [k4 _ (by omega)] at this
      cases this
    · have g1 := k8 _ (by omega) (h _ h4)
      have g2 := k8 _ (by omega) (h _ h5)
      omega
/-- The sum over the days of how many slots of each are in is how many moments are. -/
theorem CN_sum (p : Nat → Bool) (S n : Nat) : (((List.range n).map fun d => (CN (fun s => p (d * S + s)) S : Int)).sum) = ((FL p (n * S)).length : Int) := by
  have hcn : ∀ (q : Nat → Bool) (k : Nat), (FL q k).length = CN q k := by
    intro q k
    induction k with
    | zero => rfl
    | succ k ih => rw [FL_succ, CN]; split <;> simp [ih]
  induction n with
  | zero => simp [FL_zero]
  | succ n ih =>
    rw [List.range_succ, List.map_append, List.sum_append, ih, Nat.succ_mul, FL_add, List.length_append, List.length_map, hcn (fun s => p (n * S + s)) S]
    simp
end Go.Proofs.Ytcdcocnljnlkfaa.P1
