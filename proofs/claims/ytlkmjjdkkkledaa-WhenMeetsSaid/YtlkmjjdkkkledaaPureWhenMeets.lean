/- The law WhenMeets, over numbers alone. -/
import Derived.Test.YtlkmjjdkkkledaaQ17
import Derived.Test.YtlkmjjdkkkledaaW7
import Derived.Test.YtlkmjjdkkkledaaW8
import Derived.Test.YtlkmjjdkkkledaaW10
namespace Go.Proofs.Ytlkmjjdkkkledaa.Pure
open Go.RowKit Go.Proofs.YtlkmjjdkkkledaaW.PrintWords Go.Proofs.YtlkmjjdkkkledaaW.PrintLast Go.Proofs.YtlkmjjdkkkledaaW.PrintMore Go.Proofs.Ytlkmjjdkkkledaa.M Go.Proofs.Ytlkmjjdkkkledaa.Q Go.Proofs.Ytlkmjjdkkkledaa.W1 Go.Proofs.Ytlkmjjdkkkledaa.W2 Go.Proofs.Ytlkmjjdkkkledaa.W3 Go.Proofs.Ytlkmjjdkkkledaa.W4 Go.Proofs.Ytlkmjjdkkkledaa.W7 Go.Proofs.Ytlkmjjdkkkledaa.W8 Go.Proofs.Ytlkmjjdkkkledaa.W10
set_option linter.unusedVariables false
theorem heads_ev : Ev (fun k => horariumlaw09_heads.f k) true := Ev.of (fun k => horariumlaw09_heads.mono k) (k := 60) (by decide +kernel)
theorem heads_ev' : Ev (fun k => (horariumlaw09_heads.f k).bind fun t => some t) true := Ev.bind heads_ev (Ev.now true)
theorem MOM_len {g0 g1 g2 w0 w1 w2 w3 : Int} (h : RG g0 g1 g2) : (MOM g0 g1 g2 w0 w1 w2 w3).length ≤ 20 * 7 * 96 := by
  unfold MOM
  split
  · refine Nat.le_trans (FL_len _ _) ?_
    unfold RG at h
    exact Nat.mul_le_mul (Nat.mul_le_mul (by omega) (by omega)) (by omega)
  · simp
section
variable {g0 g1 g2 aw ad ap al bw bd bp bl : Int}
theorem meets_end (ha : RT g0 g1 g2 aw ad ap al) (hb : RT g0 g1 g2 bw bd bp bl) (u0 : 0 ≤ aw ∧ aw < 4294967296) (u1 : 0 ≤ ad ∧ ad < 256) (v0 : 0 ≤ bw ∧ bw < 4294967296) (v1 : 0 ≤ bd ∧ bd < 256) {x7 : List Int} {i : Int} (hi : ¬ i < (x7.length : Int)) :
    Ev (fun k => horariumlaw09_WhenMeets.l0 k x7 (MOM g0 g1 g2 bw bd bp bl) (COM g0 g1 g2 aw ad ap al bw bd bp bl) i g0 g1 g2 aw ad ap al bw bd bp bl) true := by
  have hc := Aside0.mk (COM_len ha hb u0.1 u1.1 v0.1 v1.1)
  have hcl : (((COM g0 g1 g2 aw ad ap al bw bd bp bl).length : Int) == ((MOM g0 g1 g2 bw bd bp bl).length : Int)) = decide (MT aw ad ap al bw bd bp bl ∧ AND aw bw = bw ∧ AND ad bd = bd ∧ max ap bp = bp ∧ min (ap + al) (bp + bl) - max ap bp = bl) := by
    rw [Bool.eq_iff_iff, decide_eq_true_eq, ← hc.out, beq_iff_eq, Int.natCast_inj]
  by_cases h : MT aw ad ap al bw bd bp bl
  · have hrt := RT_both ha hb u0.1 u1.1 h
    have hpos : decide (((COM g0 g1 g2 aw ad ap al bw bd bp bl).length : Int) > 0) = true := by
      rw [COM_yes ha hb u0.1 u1.1 h]
      have := MOM_ne hrt (AND_le u0.1).1 (AND_le u1.1).1
      exact decide_eq_true (by omega)
    have w0 : 0 ≤ AND aw bw ∧ AND aw bw < 4294967296 := ⟨(AND_le u0.1).1, by have := (AND_le (x := aw) (y := bw) u0.1).2; omega⟩
    have w1 : 0 ≤ AND ad bd ∧ AND ad bd < 256 := ⟨(AND_le u1.1).1, by have := (AND_le (x := ad) (y := bd) u1.1).2; omega⟩
    have hm := when_Moments_f (g0 := g0) (g1 := g1) (g2 := g2) (w2 := max ap bp) (w3 := min (ap + al) (bp + bl) - max ap bp) w0 w1
    have hi2 := Ints_same (a := MOM g0 g1 g2 (AND aw bw) (AND ad bd) (max ap bp) (min (ap + al) (bp + bl) - max ap bp)) (Nat.le_trans (MOM_len hrt.1) (by decide))
    rw [← COM_yes ha hb u0.1 u1.1 h] at hm hi2
    refine Ev.step (f := fun k => (when_Moments.f k g0 g1 g2 (AND aw bw) (AND ad bd) (max ap bp) (min (ap + al) (bp + bl) - max ap bp)).bind fun t => (horariumref03_Ints.f k t (COM g0 g1 g2 aw ad ap al bw bd bp bl)).bind fun t2 => if t2 = true then (horariumlaw09_heads.f k).bind fun t => some t else some false) (fun k => ?_) (Ev.bind hm (Ev.bind hi2 heads_ev'))
    simp only [horariumlaw09_WhenMeets.l0]
    rw [if_neg hi, when_Both_f u0 u1 v0 v1, if_pos h, Option.bind_some, when_Meet_f u0 u1 v0 v1, when_Meet_f v0 v1 u0 u1, when_Covers_f u0 u1 v0 v1, when_Right_f w0 w1, hpos, hcl, decide_eq_true h, decide_eq_true (MT_comm.mp h), decide_eq_true hrt]
    simp
  · have hz : decide (((COM g0 g1 g2 aw ad ap al bw bd bp bl).length : Int) > 0) = false := by
      rw [COM_no ha hb u0.1 u1.1 h]
      rfl
    refine Ev.step (fun k => ?_) heads_ev'
    simp only [horariumlaw09_WhenMeets.l0]
    rw [if_neg hi, when_Both_f u0 u1 v0 v1, if_neg h, Option.bind_some, when_Meet_f u0 u1 v0 v1, when_Meet_f v0 v1 u0 u1, when_Covers_f u0 u1 v0 v1, hz, hcl, decide_eq_false h, decide_eq_false (fun h2 => h (MT_comm.mpr h2))]
    simp
theorem meets_loop {x7 x8 : List Int} (h7 : x7.length ≤ 20 * 7 * 96) (h8 : x8.length ≤ 20 * 7 * 96) {r : Bool}
    (h : Ev (fun k => horariumlaw09_WhenMeets.l0 k x7 x8 (x7.filter (fun x => decide (x ∈ x8))) (x7.length : Int) g0 g1 g2 aw ad ap al bw bd bp bl) r) (d : Nat) : ∀ i : Nat, i ≤ x7.length → x7.length - i = d →
    Ev (fun k => horariumlaw09_WhenMeets.l0 k x7 x8 ((x7.take i).filter (fun x => decide (x ∈ x8))) i g0 g1 g2 aw ad ap al bw bd bp bl) r := by
  induction d with
  | zero =>
    intro i hi hd
    have hi2 : i = x7.length := by omega
    subst hi2
    rw [List.take_length]
    exact h
  | succ d ih =>
    intro i hi hd
    have h1 : (i : Int) < (x7.length : Int) := by omega
    have h1' : i < x7.length := by omega
    have h0 : (0 : Int) ≤ i := Int.natCast_nonneg _
    have hw := w64s (n := i) (Nat.lt_of_lt_of_le h1' (Nat.le_trans h7 (by decide)))
    have next := ih (i + 1) (by omega) (by omega)
    have ht : x7.take (i + 1) = x7.take i ++ [rd x7 i] := by
      rw [List.take_succ_eq_append_getElem h1', rd_nat, List.getD_eq_getElem?_getD, List.getElem?_eq_getElem h1']
      rfl
    have hlen : ((x7.take i).filter (fun x => decide (x ∈ x8))).length < 17592186044416 := by
      have := List.length_filter_le (fun x => decide (x ∈ x8)) (x7.take i)
      rw [List.length_take] at this
      omega
    rw [ht, List.filter_append] at next
    have hh := has_f (l := x8) (x := rd x7 i) (Nat.le_trans h8 (by decide))
    refine Ev.step (f := fun k => (horariumlaw09_has.f k x8 (rd x7 i)).bind fun t => if t = true then horariumlaw09_WhenMeets.l0 k x7 x8 (((x7.take i).filter (fun x => decide (x ∈ x8))) ++ [rd x7 i]) ((i + 1 : Nat) : Int) g0 g1 g2 aw ad ap al bw bd bp bl else horariumlaw09_WhenMeets.l0 k x7 x8 ((x7.take i).filter (fun x => decide (x ∈ x8))) ((i + 1 : Nat) : Int) g0 g1 g2 aw ad ap al bw bd bp bl) (fun k => ?_) (Ev.bind hh ?_)
    · simp only [horariumlaw09_WhenMeets.l0]
      rw [if_pos h1, if_pos h0, hw]
      simp only [if_pos hlen]
    · by_cases hx : rd x7 i ∈ x8
      · simp only [hx, decide_true, if_true]
        simpa [hx] using next
      · simp only [hx, decide_false, Bool.false_eq_true, if_false]
        simpa [hx] using next
end
theorem WhenMeets : ∀ (a0_0 : Int) (a0_1 : Int) (a0_2 : Int) (a1_0 : Int) (a1_1 : Int) (a1_2 : Int) (a1_3 : Int) (a2_0 : Int) (a2_1 : Int) (a2_2 : Int) (a2_3 : Int), (Lit.int .i64 a0_0).wf = true → (Lit.int .i64 a0_1).wf = true → (Lit.int .i64 a0_2).wf = true → (Lit.int .u32 a1_0).wf = true → (Lit.int .u8 a1_1).wf = true → (Lit.int .i64 a1_2).wf = true → (Lit.int .i64 a1_3).wf = true → (Lit.int .u32 a2_0).wf = true → (Lit.int .u8 a2_1).wf = true → (Lit.int .i64 a2_2).wf = true → (Lit.int .i64 a2_3).wf = true → ∃ k, horariumlaw09_WhenMeets.f k a0_0 a0_1 a0_2 a1_0 a1_1 a1_2 a1_3 a2_0 a2_1 a2_2 a2_3 = some true := by
  intro g0 g1 g2 aw ad ap al bw bd bp bl _ _ _ u0 u1 _ _ v0 v1 _ _
  replace u0 := wf_u32 u0
  replace u1 := wf_u8 u1
  replace v0 := wf_u32 v0
  replace v1 := wf_u8 v1
  refine Ev.rounds ?_
  unfold horariumlaw09_WhenMeets.f
  simp only [when_Right_f u0 u1, when_Right_f v0 v1, Option.bind_some, decide_eq_true_eq]
  by_cases ha : RT g0 g1 g2 aw ad ap al
  · by_cases hb : RT g0 g1 g2 bw bd bp bl
    · simp only [if_pos ha, if_pos hb]
      refine Ev.bind (when_Moments_f u0 u1) (Ev.bind (when_Moments_f v0 v1) ?_)
      have := meets_loop (MOM_len ha.1) (MOM_len hb.1) (meets_end ha hb u0 u1 v0 v1 (Int.lt_irrefl _)) _ 0 (Nat.zero_le _) rfl
      exact this
    · simp only [if_pos ha, if_neg hb]
      exact heads_ev'
  · simp only [if_neg ha]
    exact heads_ev'
end Go.Proofs.Ytlkmjjdkkkledaa.Pure
