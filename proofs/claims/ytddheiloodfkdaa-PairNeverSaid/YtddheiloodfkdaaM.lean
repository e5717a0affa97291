/- Plain facts about bits, rows of numbers and the moments of a time; no program in sight. -/
import Derived.Test.YtddheiloodfkdaaV
import Derived.Laws.BitsLemmas
namespace Go.Proofs.Ytddheiloodfkdaa.M
open Go.RowKit Go.Proofs.YtddheiloodfkdaaW.PrintWords Go.Proofs.YtddheiloodfkdaaW.PrintMore

/-! ### Numbers -/
theorem w64 {n : Int} (h0 : -9223372036854775808 ≤ n) (h1 : n ≤ 9223372036854775807) : wrap64 n = n := by unfold wrap64; omega
theorem w64n (n : Nat) (h : n < 1000000) : wrap64 (n : Int) = (n : Int) := w64 (by omega) (by omega)
theorem w64s {n : Nat} (h : n < 1000000) : wrap64 ((n : Int) + 1) = ((n + 1 : Nat) : Int) := by rw [w64 (by omega) (by omega)]; rfl
theorem wf_i64 {n : Int} (h : (Lit.int .i64 n).wf = true) : -9223372036854775808 ≤ n ∧ n ≤ 9223372036854775807 := by
  simp [Lit.wf, IntKind.min, IntKind.max, IntKind.signed, IntKind.bits] at h; omega
theorem wf_u32 {n : Int} (h : (Lit.int .u32 n).wf = true) : 0 ≤ n ∧ n < 4294967296 := by
  simp [Lit.wf, IntKind.min, IntKind.max, IntKind.signed, IntKind.bits] at h; omega
theorem wf_u16 {n : Int} (h : (Lit.int .u16 n).wf = true) : 0 ≤ n ∧ n < 65536 := by
  simp [Lit.wf, IntKind.min, IntKind.max, IntKind.signed, IntKind.bits] at h; omega
theorem wf_u8 {n : Int} (h : (Lit.int .u8 n).wf = true) : 0 ≤ n ∧ n < 256 := by
  simp [Lit.wf, IntKind.min, IntKind.max, IntKind.signed, IntKind.bits] at h; omega
theorem wrap_u64 (n : Int) : IntKind.u64.wrap n = n % 18446744073709551616 := by simp [IntKind.wrap, IntKind.bits, IntKind.signed]

/-! ### Bits -/
/-- Bit i of a number that is not negative. -/
def tb (x : Int) (i : Int) : Bool := x.toNat.testBit i.toNat
theorem tb_nat (a i : Nat) : tb (a : Int) (i : Int) = a.testBit i := by simp [tb]
theorem and_u32 {a b : Nat} (ha : a < 4294967296) (hb : b < 4294967296) : Go.bits .and .u32 (a : Int) (b : Int) = ((a &&& b : Nat) : Int) :=
  (Go.bits_nat .u32 32 (by decide) (fun n h0 h1 => by rw [Go.IntKind.wrap_u32]; omega) a b ha hb).1
theorem and_u8 {a b : Nat} (ha : a < 256) (hb : b < 256) : Go.bits .and .u8 (a : Int) (b : Int) = ((a &&& b : Nat) : Int) :=
  (Go.bits_nat .u8 8 (by decide) (fun n h0 h1 => by rw [Go.IntKind.wrap_u8]; omega) a b ha hb).1
theorem shr_nat (k : IntKind) (a i : Nat) (ha : a < 2 ^ k.bits) : shr k (a : Int) (i : Int) = ((a >>> i : Nat) : Int) := by
  unfold shr
  rw [Int.toNat_natCast, Nat.shiftRight_eq_div_pow]
  by_cases hi : i ≤ k.bits
  · rw [Nat.min_eq_left hi]; push_cast; rfl
  · have h1 : a / 2 ^ i = 0 := Nat.div_eq_of_lt (Nat.lt_of_lt_of_le ha (Nat.pow_le_pow_right (by decide) (by omega)))
    rw [Nat.min_eq_right (by omega), h1]
    have h2 : ((a : Int) / 2 ^ k.bits) = ((a / 2 ^ k.bits : Nat) : Int) := by push_cast; rfl
    rw [h2, Nat.div_eq_of_lt ha]
theorem tbm (a j : Nat) : a >>> j % 2 = if a.testBit j = true then 1 else 0 := by
  have h := Nat.toNat_testBit a j
  rw [Nat.shiftRight_eq_div_pow, ← h]
  cases a.testBit j <;> rfl
theorem tb0 (a : Nat) : a % 2 = if a.testBit 0 = true then 1 else 0 := by
  have h := tbm a 0
  simpa using h
theorem bit_u32 {x i : Int} (h0 : 0 ≤ x) (h1 : x < 4294967296) (hi : 0 ≤ i) : Go.bits .and .u32 (shr .u32 x i) 1 = if tb x i = true then 1 else 0 := by
  obtain ⟨a, rfl⟩ := Int.eq_ofNat_of_zero_le h0
  obtain ⟨j, rfl⟩ := Int.eq_ofNat_of_zero_le hi
  have ha : a < 4294967296 := by omega
  rw [shr_nat .u32 a j (by simpa [IntKind.bits] using ha), tb_nat]
  have hs : a >>> j < 4294967296 := by rw [Nat.shiftRight_eq_div_pow]; exact Nat.lt_of_le_of_lt (Nat.div_le_self _ _) ha
  rw [show (1 : Int) = ((1 : Nat) : Int) from rfl, and_u32 hs (by decide), Nat.and_one_is_mod, tbm]
  split <;> rfl
theorem bit_u8 {x i : Int} (h0 : 0 ≤ x) (h1 : x < 256) (hi : 0 ≤ i) : Go.bits .and .u8 (shr .u8 x i) 1 = if tb x i = true then 1 else 0 := by
  obtain ⟨a, rfl⟩ := Int.eq_ofNat_of_zero_le h0
  obtain ⟨j, rfl⟩ := Int.eq_ofNat_of_zero_le hi
  have ha : a < 256 := by omega
  rw [shr_nat .u8 a j (by simpa [IntKind.bits] using ha), tb_nat]
  have hs : a >>> j < 256 := by rw [Nat.shiftRight_eq_div_pow]; exact Nat.lt_of_le_of_lt (Nat.div_le_self _ _) ha
  rw [show (1 : Int) = ((1 : Nat) : Int) from rfl, and_u8 hs (by decide), Nat.and_one_is_mod, tbm]
  split <;> rfl
/-- What horariumref09's bit answers. -/
theorem bit_ref {x i : Int} (h0 : 0 ≤ x) (h1 : x < 4294967296) (hi : 0 ≤ i) : ((Int.tmod (shr .u32 x i) 2) == 1) = tb x i := by
  obtain ⟨a, rfl⟩ := Int.eq_ofNat_of_zero_le h0
  obtain ⟨j, rfl⟩ := Int.eq_ofNat_of_zero_le hi
  have ha : a < 4294967296 := by omega
  rw [shr_nat .u32 a j (by simpa [IntKind.bits] using ha), tb_nat]
  have h2 : Int.tmod ((a >>> j : Nat) : Int) 2 = (((a >>> j) % 2 : Nat) : Int) := by
    rw [Int.tmod_eq_emod_of_nonneg (Int.natCast_nonneg _)]; rfl
  rw [h2, tbm]
  cases a.testBit j <;> rfl
/-- No bit from j on: the number is below 2^j. -/
theorem lt_pow_iff {a j m : Nat} (ha : a < 2 ^ m) : a < 2 ^ j ↔ ∀ i, j ≤ i → i < m → a.testBit i = false := by
  constructor
  · intro h i hi _
    exact Nat.testBit_lt_two_pow (Nat.lt_of_lt_of_le h (Nat.pow_le_pow_right (by decide) hi))
  · intro h
    refine Nat.lt_pow_two_of_testBit _ fun i hi => ?_
    by_cases him : i < m
    · exact h i hi him
    · exact Nat.testBit_lt_two_pow (Nat.lt_of_lt_of_le ha (Nat.pow_le_pow_right (by decide) (by omega)))
theorem and_ne_iff {a b m : Nat} (ha : a < 2 ^ m) : a &&& b ≠ 0 ↔ ∃ i, i < m ∧ a.testBit i = true ∧ b.testBit i = true := by
  constructor
  · intro h
    refine Classical.byContradiction fun hc => h (Nat.eq_of_testBit_eq fun i => ?_)
    rw [Nat.testBit_and, Nat.zero_testBit]
    by_cases hi : i < m
    · cases h1 : a.testBit i with
      | false => rfl
      | true => cases h2 : b.testBit i with
        | false => rfl
        | true => exact absurd ⟨i, hi, h1, h2⟩ hc
    · rw [Nat.testBit_lt_two_pow (Nat.lt_of_lt_of_le ha (Nat.pow_le_pow_right (by decide) (by omega)))]; rfl
  · rintro ⟨i, _, h1, h2⟩ h0
    have := Nat.testBit_and a b i
    rw [h0, Nat.zero_testBit, h1, h2] at this
    cases this
/-- The numbers below n that are so. -/
def FL (p : Nat → Bool) (n : Nat) : List Int := ((List.range n).filter p).map (fun m : Nat => (m : Int))
theorem FL_zero (p : Nat → Bool) : FL p 0 = [] := rfl
theorem FL_succ (p : Nat → Bool) (n : Nat) : FL p (n + 1) = if p n = true then FL p n ++ [(n : Int)] else FL p n := by
  unfold FL
  rw [List.range_succ, List.filter_append, List.map_append]
  cases h : p n <;> simp [h]
theorem FL_add (p : Nat → Bool) (n m : Nat) : FL p (n + m) = FL p n ++ (FL (fun s => p (n + s)) m).map (fun x => (n : Int) + x) := by
  induction m with
  | zero => simp [FL_zero]
  | succ m ih =>
    rw [← Nat.add_assoc, FL_succ, FL_succ, ih]
    cases h : p (n + m) <;> simp
theorem FL_congr {p q : Nat → Bool} {n : Nat} (h : ∀ i, i < n → p i = q i) : FL p n = FL q n := by
  induction n with
  | zero => rfl
  | succ n ih => rw [FL_succ, FL_succ, ih (fun i hi => h i (by omega)), h n (by omega)]
theorem FL_false (n : Nat) : FL (fun _ => false) n = [] := by
  induction n with
  | zero => rfl
  | succ n ih => rw [FL_succ, ih]; rfl
theorem FL_len (p : Nat → Bool) (n : Nat) : (FL p n).length ≤ n := by
  unfold FL
  rw [List.length_map]
  exact Nat.le_trans (List.length_filter_le _ _) (by simp)
theorem FL_mem {p : Nat → Bool} {n : Nat} {x : Int} : x ∈ FL p n ↔ ∃ m : Nat, m < n ∧ p m = true ∧ x = (m : Int) := by
  unfold FL
  simp only [List.mem_map, List.mem_filter, List.mem_range]
  constructor
  · rintro ⟨m, ⟨h1, h2⟩, rfl⟩
    exact ⟨m, h1, h2, rfl⟩
  · rintro ⟨m, h1, h2, rfl⟩
    exact ⟨m, ⟨h1, h2⟩, rfl⟩
/-- So many numbers from one on. -/
def run (from_ : Int) (n : Nat) : List Int := (List.range n).map (fun i : Nat => from_ + (i : Int))
theorem run_zero (a : Int) : run a 0 = [] := rfl
theorem run_succ (a : Int) (n : Nat) : run a (n + 1) = run a n ++ [a + (n : Int)] := by
  unfold run
  rw [List.range_succ, List.map_append]
  rfl
theorem run_len (a : Int) (n : Nat) : (run a n).length = n := by simp [run]
theorem FL_run (st ln S : Nat) (h : st + ln ≤ S) : FL (fun s => decide (st ≤ s) && decide (s < st + ln)) S = run st ln := by
  have key : ∀ k, k ≤ S → FL (fun s => decide (st ≤ s) && decide (s < st + ln)) k = run st (min (k - st) ln) := by
    intro k
    induction k with
    | zero => intro _; simp [FL_zero, run]
    | succ k ih =>
      intro hk
      rw [FL_succ, ih (by omega)]
      by_cases h1 : st ≤ k ∧ k < st + ln
      · rw [if_pos (by simp [h1]), Nat.min_eq_left (by omega), Nat.min_eq_left (by omega), show k + 1 - st = (k - st) + 1 by omega, run_succ]
        congr 2
        omega
      · rw [if_neg (by simp only [Bool.and_eq_true, decide_eq_true_eq]; omega)]
        congr 1
        omega
  rw [key S (Nat.le_refl _), Nat.min_eq_right (by omega)]
/-- Is a time on block b (a day of a week)? -/
def qb (wk dy D b : Nat) : Bool := wk.testBit (b / D) && dy.testBit (b % D)
/-- Is moment m one of a time's? -/
def pm (wk dy st ln D S m : Nat) : Bool := qb wk dy D (m / S) && (decide (st ≤ m % S) && decide (m % S < st + ln))
theorem FL_block (wk dy st ln D S b : Nat) (hS : 0 < S) (h : st + ln ≤ S) :
    FL (pm wk dy st ln D S) (b * S + S) = FL (pm wk dy st ln D S) (b * S) ++ if qb wk dy D b = true then run ((b * S + st : Nat) : Int) ln else [] := by
  rw [FL_add]
  have h1 : FL (fun s => pm wk dy st ln D S (b * S + s)) S = FL (fun s => qb wk dy D b && (decide (st ≤ s) && decide (s < st + ln))) S := by
    refine FL_congr fun s hs => ?_
    unfold pm
    rw [show (b * S + s) / S = b by rw [Nat.add_comm, Nat.add_mul_div_right _ _ hS, Nat.div_eq_of_lt hs, Nat.zero_add], show (b * S + s) % S = s by rw [Nat.add_comm, Nat.add_mul_mod_self_right, Nat.mod_eq_of_lt hs]]
  rw [h1]
  cases hq : qb wk dy D b with
  | false => simp [FL_false]
  | true =>
    simp only [Bool.true_and, if_true]
    rw [FL_run st ln S h]
    congr 1
    unfold run
    rw [List.map_map]
    refine List.map_congr_left fun i _ => ?_
    simp only [Function.comp_apply]
    omega
end Go.Proofs.Ytddheiloodfkdaa.M
