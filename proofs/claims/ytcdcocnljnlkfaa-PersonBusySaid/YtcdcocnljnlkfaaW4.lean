/- Rows of numbers: are two alike (plain, over the printed function). -/
import Derived.Test.YtcdcocnljnlkfaaQ3
import Derived.Test.YtcdcocnljnlkfaaM
namespace Go.Proofs.Ytcdcocnljnlkfaa.W4
open Go.RowKit Go.Proofs.YtcdcocnljnlkfaaW.PrintWords Go.Proofs.YtcdcocnljnlkfaaW.PrintLast Go.Proofs.YtcdcocnljnlkfaaW.PrintMore Go.Proofs.Ytcdcocnljnlkfaa.M Go.Proofs.Ytcdcocnljnlkfaa.Q

theorem rd_nat (l : List Int) (i : Nat) : rd l (i : Int) = l.getD i 0 := by simp [rd]
theorem Ints_l0 {a b : List Int} (hl : a.length = b.length) (hm : a.length ≤ 1000000000000000000) (d : Nat) : ∀ i : Nat, i ≤ a.length → a.length - i = d →
    ∃ r, Ev (fun k => horariumref03_Ints.l0 k a b i) r ∧ (r = true ↔ ∀ j : Nat, i ≤ j → j < a.length → a.getD j 0 = b.getD j 0) := by
  induction d with
  | zero =>
    intro i hi hd
    have hn : ¬ (i : Int) < (a.length : Int) := by omega
    refine ⟨true, Ev.step (f := fun _ => some _) (fun k => ?_) (Ev.now _), ?_⟩
    · simp only [horariumref03_Ints.l0]
      rw [if_neg hn]
    · simp only [true_iff]
      intro j h1 h2
      omega
  | succ d ih =>
    intro i hi hd
    have h1 : (i : Int) < (a.length : Int) := by omega
    have h2 : (i : Int) < (b.length : Int) := by omega
    have h0 : (0 : Int) ≤ i := Int.natCast_nonneg _
    by_cases h : a.getD i 0 = b.getD i 0
    · obtain ⟨r, hr, e⟩ := ih (i + 1) (by omega) (by omega)
      have hw : wrap64 ((i : Int) + 1) = ((i + 1 : Nat) : Int) := by rw [w64 (by omega) (by omega)]; rfl
      refine ⟨r, Ev.step (fun k => ?_) hr, ?_⟩
      · simp only [horariumref03_Ints.l0]
        rw [if_pos h1, if_pos h0, if_pos h2, rd_nat, rd_nat, if_pos h, hw]
      · rw [e]
        constructor
        · intro hc j h3 h4
          by_cases hj : j = i
          · subst hj; exact h
          · exact hc j (by omega) h4
        · intro hc j h3 h4
          exact hc j (by omega) h4
    · refine ⟨false, Ev.step (f := fun _ => some _) (fun k => ?_) (Ev.now _), ?_⟩
      · simp only [horariumref03_Ints.l0]
        rw [if_pos h1, if_pos h0, if_pos h2, rd_nat, rd_nat, if_neg h]
      · simp only [Bool.false_eq_true, false_iff]
        intro hc
        exact h (hc i (Nat.le_refl _) (by omega))
theorem list_eq_getD {a b : List Int} (hl : a.length = b.length) (h : ∀ j : Nat, 0 ≤ j → j < a.length → a.getD j 0 = b.getD j 0) : a = b := by
  refine List.ext_getElem hl fun i h1 h2 => ?_
  have := h i (Nat.zero_le _) h1
  rwa [List.getD_eq_getElem?_getD, List.getD_eq_getElem?_getD, List.getElem?_eq_getElem h1, List.getElem?_eq_getElem h2] at this
theorem Ints_f {a b : List Int} (hm : a.length ≤ 1000000000000000000) : Ev (fun k => horariumref03_Ints.f k a b) (decide (a = b)) := by
  unfold horariumref03_Ints.f
  by_cases hl : a.length = b.length
  · obtain ⟨r, hr, e⟩ := Ints_l0 hl hm _ 0 (Nat.zero_le _) rfl
    have hr' : r = decide (a = b) := by
      rw [Bool.eq_iff_iff, e, decide_eq_true_eq]
      constructor
      · exact list_eq_getD hl
      · rintro rfl j _ _
        rfl
    have hl' : (a.length : Int) = (b.length : Int) := by omega
    simp only [if_pos hl']
    rw [← hr']
    exact hr
  · have hl' : ¬ (a.length : Int) = (b.length : Int) := by omega
    simp only [if_neg hl']
    have : decide (a = b) = false := decide_eq_false (fun h => hl (by rw [h]))
    rw [this]
    exact Ev.now _
theorem Ints_same {a : List Int} (hm : a.length ≤ 1000000000000000000) : Ev (fun k => horariumref03_Ints.f k a a) true := by
  have := Ints_f (a := a) (b := a) hm
  rwa [decide_eq_true rfl] at this
end Go.Proofs.Ytcdcocnljnlkfaa.W4
