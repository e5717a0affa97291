/- Which kinds of rules there are and what they ask for, by package pair; plain. -/
import Derived.Test.YtddheiloodfkdaaQ1
import Derived.Test.YtddheiloodfkdaaM
set_option linter.unusedVariables false
set_option linter.unusedSimpArgs false
namespace Go.Proofs.Ytddheiloodfkdaa.K1
open Go.RowKit Go.Proofs.YtddheiloodfkdaaW.PrintWords Go.Proofs.YtddheiloodfkdaaW.PrintLast Go.Proofs.YtddheiloodfkdaaW.PrintMore Go.Proofs.Ytddheiloodfkdaa.M Go.Proofs.Ytddheiloodfkdaa.Q
theorem up {α : Type} {g : Nat → Option α} {r : α} (h : Ev (fun k => g (k + 1)) r) : Ev g r := Ev.step (f := fun k => g (k + 1)) (fun _ => rfl) h
theorem ite_dec {α : Type} {P : Prop} [Decidable P] (x y : α) : (if decide P = true then x else y) = if P then x else y := by by_cases h : P <;> simp [h]
/-- A kind of pairs. -/
def KN (k : Int) : Prop := 1 ≤ k ∧ k ≤ 14
instance (k : Int) : Decidable (KN k) := by unfold KN; infer_instance
theorem Known_f (k : Int) : pair_Known.f k = some (decide (KN k)) := by
  unfold pair_Known.f
  by_cases h : k ≥ 1
  · rw [if_pos h]; exact congrArg some (decide_eq_decide.mpr (by unfold KN; omega))
  · rw [if_neg h, decide_eq_false (show ¬ KN k by unfold KN; omega)]
theorem Needs_ev (kd : Int) : Ev (fun k => pair_Needs.f k kd) (decide (KN kd ∧ kd ≠ 10 ∧ kd ≠ 11), decide (kd = 10 ∨ kd = 11 ∨ kd = 14)) := by
  have e : ∀ k, pair_Needs.f k kd = pair_Needs.j0 k kd kd (decide (kd = 10 ∨ kd = 11)) := by
    intro k
    unfold pair_Needs.f
    by_cases h : kd = 10
    · subst h; rfl
    · rw [if_neg h]
      congr 1
      by_cases h2 : kd = 11
      · subst h2; rfl
      · rw [decide_eq_false (by omega)]; simpa using h2
  refine Ev.congr e (up ?_)
  simp only [pair_Needs.j0, Known_f, Option.bind_some, ite_dec]
  by_cases h : kd = 10 ∨ kd = 11
  · simp only [if_pos h]
    rw [decide_eq_false (by omega), decide_eq_true (by omega)]
    exact Ev.now _
  · simp only [if_neg h]
    by_cases h2 : kd = 14
    · simp only [if_pos h2]
      rw [decide_eq_true (by unfold KN; omega), decide_eq_true (by omega)]
      exact Ev.now _
    · simp only [if_neg h2]
      rw [decide_eq_false (show ¬ (kd = 10 ∨ kd = 11 ∨ kd = 14) by omega), decide_eq_decide.mpr (show KN kd ∧ kd ≠ 10 ∧ kd ≠ 11 ↔ KN kd by unfold KN; omega)]
      exact Ev.now _
end Go.Proofs.Ytddheiloodfkdaa.K1
