/- Gap, Both and Covers by the document's answer (plain, over the printed functions). -/
import Derived.Test.YtlkmjjdkkkledaaQ23
import Derived.Test.YtlkmjjdkkkledaaQ25
import Derived.Test.YtlkmjjdkkkledaaQ26
import Derived.Test.YtlkmjjdkkkledaaW3
namespace Go.Proofs.Ytlkmjjdkkkledaa.W5
open Go.RowKit Go.Proofs.YtlkmjjdkkkledaaW.PrintWords Go.Proofs.YtlkmjjdkkkledaaW.PrintLast Go.Proofs.YtlkmjjdkkkledaaW.PrintMore Go.Proofs.Ytlkmjjdkkkledaa.M Go.Proofs.Ytlkmjjdkkkledaa.Q Go.Proofs.Ytlkmjjdkkkledaa.W1 Go.Proofs.Ytlkmjjdkkkledaa.W3
set_option linter.unusedSimpArgs false
section
variable {aw ad ap al bw bd bp bl : Int}
theorem ref_Gap_f (u0 : 0 ≤ aw ∧ aw < 4294967296) (u1 : 0 ≤ ad ∧ ad < 256) (v0 : 0 ≤ bw ∧ bw < 4294967296) (v1 : 0 ≤ bd ∧ bd < 256) :
    Ev (fun k => horariumref09_Gap.f k aw ad ap al bw bd bp bl) (if SD aw ad ap al bw bd bp bl ∧ ¬ MT aw ad ap al bw bd bp bl then (max ap bp - min (ap + al) (bp + bl), true) else (0, false)) := by
  unfold horariumref09_Gap.f
  refine Ev.bind (ref_SameDay_f u0 u1 v0 v1) ?_
  by_cases h : SD aw ad ap al bw bd bp bl
  · simp only [decide_eq_true_eq, if_pos h]
    refine Ev.bind (ref_slots_f h.1 h.2.1) ?_
    have h' := h
    unfold SD TM at h'
    by_cases h2 : ap < bp + bl ∧ bp < ap + al
    · rw [if_neg (fun h3 => h3.2 ⟨h, h2⟩)]
      refine Ev.step (f := fun _ => some _) (fun k => ?_) (Ev.now _)
      simp only [horariumref09_Gap.j0]
      rw [if_pos (decide_eq_true h2)]
    · rw [if_pos ⟨h, fun h3 => h2 h3.2⟩]
      refine Ev.step (f := fun _ => some _) (fun k => ?_) (Ev.now _)
      simp only [horariumref09_Gap.j0]
      rw [if_neg (by simpa using h2)]
      by_cases h3 : ap < bp
      · rw [if_pos h3, w64 (n := bp - ap) (by omega) (by omega), w64 (n := bp - ap - al) (by omega) (by omega)]
        congr 2
        omega
      · rw [if_neg h3, w64 (n := ap - bp) (by omega) (by omega), w64 (n := ap - bp - bl) (by omega) (by omega)]
        congr 2
        omega
  · simp only [decide_eq_true_eq, if_neg h]
    rw [if_neg (fun h3 => h h3.1)]
    refine Ev.step (f := fun _ => some _) (fun k => ?_) (Ev.now _)
    simp only [horariumref09_Gap.j0]
    rw [if_pos trivial]
/-- The lowest bits that two numbers share. -/
def low (x y : Int) (i : Nat) : Int := ((AND x y).toNat % 2 ^ i : Nat)
theorem low_succ (x y : Int) (i : Nat) : low x y (i + 1) = low x y i + if (tb x i && tb y i) = true then (2 : Int) ^ i else 0 := by
  unfold low
  rw [mod_pow_succ]
  have : (AND x y).toNat.testBit i = (tb x i && tb y i) := by
    unfold AND tb
    rw [Int.toNat_natCast, Nat.testBit_and, Int.toNat_natCast]
  rw [this]
  cases (tb x i && tb y i) <;> simp
theorem low_lt (x y : Int) (i : Nat) : 0 ≤ low x y i ∧ low x y i < 2 ^ i := by
  unfold low
  have h : (AND x y).toNat % 2 ^ i < 2 ^ i := Nat.mod_lt _ (Nat.two_pow_pos i)
  exact ⟨Int.natCast_nonneg _, by exact_mod_cast h⟩
theorem low_all {x y : Int} {i : Nat} (h : AND x y < 2 ^ i) : low x y i = AND x y := by
  unfold low
  have h0 : 0 ≤ AND x y := by unfold AND; omega
  have : (AND x y).toNat < 2 ^ i := by rw [Int.toNat_lt h0]; exact_mod_cast h
  rw [Nat.mod_eq_of_lt this]
  omega
theorem shl_one {k : IntKind} {i : Nat} {j : Int} (h : IntKind.u64.wrap j = (i : Int)) (hi : i < k.bits) (hw : k.wrap (2 ^ i) = 2 ^ i) : shl k 1 (IntKind.u64.wrap j) = 2 ^ i := by
  unfold shl
  rw [h, Int.toNat_natCast, Nat.min_eq_left (by omega), Int.one_mul, hw]
theorem pow_lt {i m : Nat} (h : i < m) : (2 : Int) ^ i * 2 ≤ 2 ^ m := by
  have h1 : 2 ^ (i + 1) ≤ 2 ^ m := Nat.pow_le_pow_right (by decide) h
  rw [Nat.pow_succ] at h1
  exact_mod_cast h1
theorem ref_Both_l0 (u0 : 0 ≤ aw ∧ aw < 4294967296) (u1 : 0 ≤ ad ∧ ad < 256) (v0 : 0 ≤ bw ∧ bw < 4294967296) (v1 : 0 ≤ bd ∧ bd < 256) (h : MT aw ad ap al bw bd bp bl) (d : Nat) : ∀ i : Nat, i ≤ 32 → 32 - i = d →
    Ev (fun k => horariumref09_Both.l0 k i aw ad ap al bw bd bp bl (low aw bw i) (low ad bd (min i 8)) (max ap bp) 0) (AND aw bw, AND ad bd, max ap bp, min (ap + al) (bp + bl) - max ap bp, true) := by
  have hA := AND_le (x := aw) (y := bw) u0.1
  have hB := AND_le (x := ad) (y := bd) u1.1
  induction d with
  | zero =>
    intro i hi hd
    have hi2 : i = 32 := by omega
    subst hi2
    have h1 := h.1.1
    have h2 := h.1.2.1
    unfold TM at h1 h2
    have e1 := low_all (x := aw) (y := bw) (i := 32) (by omega)
    have e2 := low_all (x := ad) (y := bd) (i := 8) (by omega)
    refine Ev.step (f := fun _ => some _) (fun k => ?_) (Ev.now _)
    simp only [horariumref09_Both.l0]
    rw [if_neg (by decide), w64 (n := ap + al) (by omega) (by omega), w64 (n := bp + bl) (by omega) (by omega), mn_eq, w64 (n := min (ap + al) (bp + bl) - max ap bp) (by omega) (by omega), e1, show min 32 8 = 8 from rfl, e2]
  | succ d ih =>
    intro i hi hd
    have hp : (i : Int) < 32 := by omega
    have hin : i < 32 := by omega
    have n0 : (0 : Int) ≤ i := Int.natCast_nonneg _
    have hu : IntKind.u64.wrap (i : Int) = (i : Int) := by rw [wrap_u64]; omega
    have a0 := Aside0.mk (ref_bit_f (x := aw) (i := (i : Int)) u0 ⟨n0, by omega⟩)
    have b0 := Aside0.mk (ref_bit_f (x := bw) (i := (i : Int)) v0 ⟨n0, by omega⟩)
    have a1 := Aside0.mk (ref_bit_f (x := ad) (i := (i : Int)) ⟨u1.1, by omega⟩ ⟨n0, by omega⟩)
    have b1 := Aside0.mk (ref_bit_f (x := bd) (i := (i : Int)) ⟨v1.1, by omega⟩ ⟨n0, by omega⟩)
    have m1 : ad % 4294967296 = ad := by omega
    have m2 : bd % 4294967296 = bd := by omega
    have h8 : ((i : Int) < 8) ↔ i < 8 := by omega
    have next := ih (i + 1) (by omega) (by omega)
    have hw := Aside0.mk (w64s (n := i) (by omega))
    -- the days' step
    have days : Ev (fun k => horariumref09_Both.j2 k i aw ad ap al bw bd bp bl (low aw bw (i + 1)) (low ad bd (min i 8)) (max ap bp) 0) (AND aw bw, AND ad bd, max ap bp, min (ap + al) (bp + bl) - max ap bp, true) := by
      refine Ev.step (fun k => ?_) next
      simp only [horariumref09_Both.j2]
      rw [m1, m2, a1.out, b1.out, hw.out, hu]
      simp only [Option.bind_some]
      by_cases h9 : i < 8
      · have q9 := h8.mpr h9
        have l1 := low_lt ad bd (i + 1)
        have l2 := pow_lt (i := i) (m := 8) h9
        have l3 := low_succ ad bd i
        rw [Int.pow_succ] at l1
        have e1 : min i 8 = i := by omega
        have e2 : min (i + 1) 8 = i + 1 := by omega
        have sh : shl .u8 1 (i : Int) = 2 ^ i := by
          have := shl_one (k := .u8) (i := i) (j := (i : Int)) hu (by simpa [IntKind.bits] using h9) (by rw [Go.IntKind.wrap_u8]; exact Int.emod_eq_of_lt (by have := low_lt ad bd i; omega) (by have := low_lt ad bd i; omega))
          rwa [hu] at this
        rw [if_pos q9, if_pos n0, sh, e1, e2]
        cases c1 : tb ad i <;> cases c2 : tb bd i <;> rw [c1, c2] at l3 <;> simp only [Bool.true_and, Bool.false_and, Bool.and_false, Bool.and_true, Bool.false_eq_true, if_false, if_true, Int.add_zero] at l3 ⊢
        · rw [l3]
        · rw [l3]
        · rw [l3]
        · rw [← l3, Int.emod_eq_of_lt l1.1 (by omega)]
      · have q9 : ¬ (i : Int) < 8 := fun hc => h9 (h8.mp hc)
        have e1 : min i 8 = 8 := by omega
        have e2 : min (i + 1) 8 = 8 := by omega
        rw [if_neg q9, e1, e2]
    -- the weeks' step
    have l1 := low_lt aw bw (i + 1)
    have l2 := pow_lt (i := i) (m := 32) hin
    have l3 := low_succ aw bw i
    rw [Int.pow_succ] at l1
    have sh : shl .u32 1 (i : Int) = 2 ^ i := by
      have := shl_one (k := .u32) (i := i) (j := (i : Int)) hu (by simpa [IntKind.bits] using hin) (by rw [Go.IntKind.wrap_u32]; exact Int.emod_eq_of_lt (by have := low_lt aw bw i; omega) (by have := low_lt aw bw i; omega))
      rwa [hu] at this
    have weeks : Ev (fun k => horariumref09_Both.j1 k i (tb aw i && tb bw i) aw ad ap al bw bd bp bl (low aw bw i) (low ad bd (min i 8)) (max ap bp) 0) (AND aw bw, AND ad bd, max ap bp, min (ap + al) (bp + bl) - max ap bp, true) := by
      refine Ev.step (fun k => ?_) days
      simp only [horariumref09_Both.j1]
      rw [hu, if_pos n0, sh]
      cases c : (tb aw i && tb bw i) <;> rw [c] at l3 <;> simp only [Bool.false_eq_true, if_false, if_true, Int.add_zero] at l3 ⊢
      · rw [l3]
      · rw [← l3, Int.emod_eq_of_lt l1.1 (by omega)]
    refine Ev.step (fun k => ?_) weeks
    simp only [horariumref09_Both.l0]
    rw [if_pos hp, a0.out, b0.out]
    simp only [Option.bind_some]
    cases tb aw i <;> rfl
theorem ref_Both_f (u0 : 0 ≤ aw ∧ aw < 4294967296) (u1 : 0 ≤ ad ∧ ad < 256) (v0 : 0 ≤ bw ∧ bw < 4294967296) (v1 : 0 ≤ bd ∧ bd < 256) :
    Ev (fun k => horariumref09_Both.f k aw ad ap al bw bd bp bl) (if MT aw ad ap al bw bd bp bl then (AND aw bw, AND ad bd, max ap bp, min (ap + al) (bp + bl) - max ap bp, true) else (0, 0, 0, 0, false)) := by
  unfold horariumref09_Both.f
  refine Ev.bind (ref_Meet_f u0 u1 v0 v1) ?_
  by_cases h : MT aw ad ap al bw bd bp bl
  · simp only [decide_eq_true_eq, if_pos h, mx_eq]
    have := ref_Both_l0 u0 u1 v0 v1 h _ 0 (by omega) rfl
    have e : ∀ x y : Int, low x y 0 = 0 := fun x y => by unfold low; rw [Nat.pow_zero, Nat.mod_one]; rfl
    rw [show min 0 8 = 0 from rfl, e, e] at this
    exact this
  · simp only [decide_eq_true_eq, if_neg h]
    exact Ev.now _
theorem ref_Covers_f (u0 : 0 ≤ aw ∧ aw < 4294967296) (u1 : 0 ≤ ad ∧ ad < 256) (v0 : 0 ≤ bw ∧ bw < 4294967296) (v1 : 0 ≤ bd ∧ bd < 256) :
    Ev (fun k => horariumref09_Covers.f k aw ad ap al bw bd bp bl) (decide (MT aw ad ap al bw bd bp bl ∧ AND aw bw = bw ∧ AND ad bd = bd ∧ max ap bp = bp ∧ min (ap + al) (bp + bl) - max ap bp = bl)) := by
  unfold horariumref09_Covers.f
  refine Ev.bind (ref_Both_f u0 u1 v0 v1) ?_
  by_cases h : MT aw ad ap al bw bd bp bl
  · simp only [if_pos h, if_true]
    have : decide (MT aw ad ap al bw bd bp bl ∧ AND aw bw = bw ∧ AND ad bd = bd ∧ max ap bp = bp ∧ min (ap + al) (bp + bl) - max ap bp = bl) = (AND aw bw == bw && (AND ad bd == bd && (max ap bp == bp && (min (ap + al) (bp + bl) - max ap bp == bl)))) := by
      rw [Bool.eq_iff_iff, decide_eq_true_eq]
      simp [h]
    rw [this]
    exact Ev.now _
  · simp only [if_neg h]
    simp only [Bool.false_eq_true, if_false, h, false_and, decide_false]
    exact Ev.now _
end
end Go.Proofs.Ytlkmjjdkkkledaa.W5
