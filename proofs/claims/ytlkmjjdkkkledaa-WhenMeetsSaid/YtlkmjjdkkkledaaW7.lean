/- Whether a number is in a row (plain, over the printed function). -/
import Derived.Test.YtlkmjjdkkkledaaQ16
import Derived.Test.YtlkmjjdkkkledaaW4
namespace Go.Proofs.Ytlkmjjdkkkledaa.W7
open Go.RowKit Go.Proofs.YtlkmjjdkkkledaaW.PrintWords Go.Proofs.YtlkmjjdkkkledaaW.PrintLast Go.Proofs.YtlkmjjdkkkledaaW.PrintMore Go.Proofs.Ytlkmjjdkkkledaa.M Go.Proofs.Ytlkmjjdkkkledaa.Q Go.Proofs.Ytlkmjjdkkkledaa.W4
theorem has_l0 {l : List Int} {x : Int} (hm : l.length ≤ 1000000000000000000) (d : Nat) : ∀ i : Nat, i ≤ l.length → l.length - i = d →
    ∃ r, Ev (fun k => horariumlaw09_has.l0 k l x i) r ∧ (r = true ↔ ∃ j : Nat, i ≤ j ∧ j < l.length ∧ l.getD j 0 = x) := by
  induction d with
  | zero =>
    intro i hi hd
    have hn : ¬ (i : Int) < (l.length : Int) := by omega
    refine ⟨false, Ev.step (f := fun _ => some _) (fun k => ?_) (Ev.now _), ?_⟩
    · simp only [horariumlaw09_has.l0]
      rw [if_neg hn]
    · simp only [Bool.false_eq_true, false_iff]
      rintro ⟨j, h1, h2, _⟩
      omega
  | succ d ih =>
    intro i hi hd
    have h1 : (i : Int) < (l.length : Int) := by omega
    have h0 : (0 : Int) ≤ i := Int.natCast_nonneg _
    by_cases h : l.getD i 0 = x
    · refine ⟨true, Ev.step (f := fun _ => some _) (fun k => ?_) (Ev.now _), ?_⟩
      · simp only [horariumlaw09_has.l0]
        rw [if_pos h1, if_pos h0, rd_nat, if_pos h]
      · simp only [true_iff]
        exact ⟨i, Nat.le_refl _, by omega, h⟩
    · obtain ⟨r, hr, e⟩ := ih (i + 1) (by omega) (by omega)
      have hw : wrap64 ((i : Int) + 1) = ((i + 1 : Nat) : Int) := by rw [w64 (by omega) (by omega)]; rfl
      refine ⟨r, Ev.step (fun k => ?_) hr, ?_⟩
      · simp only [horariumlaw09_has.l0]
        rw [if_pos h1, if_pos h0, rd_nat, if_neg h, hw]
      · rw [e]
        constructor
        · rintro ⟨j, h3, h4⟩
          exact ⟨j, by omega, h4⟩
        · rintro ⟨j, h3, h4, h5⟩
          by_cases hj : j = i
          · subst hj; exact absurd h5 h
          · exact ⟨j, by omega, h4, h5⟩
theorem has_f {l : List Int} {x : Int} (hm : l.length ≤ 1000000000000000000) : Ev (fun k => horariumlaw09_has.f k l x) (decide (x ∈ l)) := by
  obtain ⟨r, hr, e⟩ := has_l0 (x := x) hm _ 0 (Nat.zero_le _) rfl
  have hr' : r = decide (x ∈ l) := by
    rw [Bool.eq_iff_iff, e, decide_eq_true_eq, List.mem_iff_getElem]
    constructor
    · rintro ⟨j, _, h2, h3⟩
      refine ⟨j, h2, ?_⟩
      rwa [List.getD_eq_getElem?_getD, List.getElem?_eq_getElem h2] at h3
    · rintro ⟨j, h2, h3⟩
      refine ⟨j, Nat.zero_le _, h2, ?_⟩
      rwa [List.getD_eq_getElem?_getD, List.getElem?_eq_getElem h2]
  rw [← hr']
  exact hr
end Go.Proofs.Ytlkmjjdkkkledaa.W7
