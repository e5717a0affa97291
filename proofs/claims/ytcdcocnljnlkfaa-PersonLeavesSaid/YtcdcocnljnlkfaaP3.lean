/- A person with a time away more, or less: plain. -/
import Derived.Test.YtcdcocnljnlkfaaQ13
import Derived.Test.YtcdcocnljnlkfaaQ16
import Derived.Test.YtcdcocnljnlkfaaEConcat
import Derived.Test.YtcdcocnljnlkfaaEClone
import Derived.Test.YtcdcocnljnlkfaaL2a
set_option linter.unusedVariables false
set_option linter.unusedSimpArgs false
namespace Go.Proofs.Ytcdcocnljnlkfaa.P3
open Go.RowKit Go.Proofs.YtcdcocnljnlkfaaW.PrintWords Go.Proofs.Ytcdcocnljnlkfaa.M Go.Proofs.Ytcdcocnljnlkfaa.Q Go.Proofs.Ytcdcocnljnlkfaa.L1 Go.Proofs.Ytcdcocnljnlkfaa.L2
section
variable {l : List S27} {n : ByteArray} {w0 w1 w2 w3 : Int}
theorem eq_T (x : S27) : (x.f0 == w0 && (x.f1 == w1 && (x.f2 == w2 && (x.f3 == w3)))) = true ↔ x = ⟨w0, w1, w2, w3⟩ := by
  obtain ⟨x0, x1, x2, x3⟩ := x
  simp only [Bool.and_eq_true, beq_iff_eq, S27.mk.injEq]
theorem eq_T' (x : S27) : (w0 == x.f0 && (w1 == x.f1 && (w2 == x.f2 && (w3 == x.f3)))) = true ↔ x = ⟨w0, w1, w2, w3⟩ := by
  rw [← eq_T]
  simp only [Bool.and_eq_true, beq_iff_eq]
  constructor
  · rintro ⟨h0, h1, h2, h3⟩; exact ⟨h0.symm, h1.symm, h2.symm, h3.symm⟩
  · rintro ⟨h0, h1, h2, h3⟩; exact ⟨h0.symm, h1.symm, h2.symm, h3.symm⟩
theorem Leave_f (hm : l.length < 1000000) : person_Leave.f n l w0 w1 w2 w3 = some (if l.length ≥ 16 then ((⟨#[]⟩ : ByteArray), ([] : List S27), 9) else (n, l ++ [⟨w0, w1, w2, w3⟩], 0)) := by
  unfold person_Leave.f slices_Clone.f
  by_cases h : l.length ≥ 16
  · rw [if_pos (by omega), if_pos h]
  · rw [if_neg (by omega), if_neg h, if_pos (by omega), Option.bind_some, Option.bind_some, if_pos (by rw [List.length_singleton]; omega)]
theorem Index_f (hm : l.length < 1000000) :
    ((∀ i : Nat, i < l.length → ¬ rd_T27 l i = ⟨w0, w1, w2, w3⟩) → Ev (fun k => api_When_35.f k l w0 w1 w2 w3) (-1)) ∧
    (∀ m : Nat, m < l.length → rd_T27 l m = ⟨w0, w1, w2, w3⟩ → (∀ i : Nat, i < m → ¬ rd_T27 l i = ⟨w0, w1, w2, w3⟩) → Ev (fun k => api_When_35.f k l w0 w1 w2 w3) (m : Int)) := by
  refine loop_first (L := fun k i => api_When_35.l0 k l (l.length : Int) i w0 w1 w2 w3) (P := fun i => rd_T27 l i = ⟨w0, w1, w2, w3⟩) (rb := fun m => (m : Int)) ?_ ?_ ?_
  · intro i hi hp r h
    refine Ev.step (fun k => ?_) h
    simp only [api_When_35.l0]
    rw [if_pos (by omega), if_pos (by omega), if_pos (by omega), if_neg (fun hc => hp ((eq_T' _).mp hc)), w64s (by omega)]
  · intro i hi hp
    refine Ev.step (fun k => ?_) (Ev.now _)
    simp only [api_When_35.l0]
    rw [if_pos (by omega), if_pos (by omega), if_pos (by omega), if_pos ((eq_T' _).mpr hp)]
  · refine Ev.step (fun k => ?_) (Ev.now _)
    simp only [api_When_35.l0]
    rw [if_neg (by omega)]
theorem Return_f (hm : l.length < 1000000) :
    ((∀ i : Nat, i < l.length → ¬ rd_T27 l i = ⟨w0, w1, w2, w3⟩) → Ev (fun k => person_Return.f k n l w0 w1 w2 w3) ((⟨#[]⟩ : ByteArray), ([] : List S27), 8)) ∧
    (∀ m : Nat, m < l.length → rd_T27 l m = ⟨w0, w1, w2, w3⟩ → (∀ i : Nat, i < m → ¬ rd_T27 l i = ⟨w0, w1, w2, w3⟩) → Ev (fun k => person_Return.f k n l w0 w1 w2 w3) (n, l.take m ++ l.drop (m + 1), 0)) := by
  have hi := Index_f (w0 := w0) (w1 := w1) (w2 := w2) (w3 := w3) hm
  unfold person_Return.f
  constructor
  · intro h
    refine Ev.bind (hi.1 h) ?_
    simp only [if_pos (show (-1 : Int) < 0 by decide)]
    exact Ev.now _
  · intro m h1 h2 h3
    refine Ev.bind (hi.2 m h1 h2 h3) ?_
    have hw : wrap64 ((m : Int) + 1) = ((m + 1 : Nat) : Int) := w64s (by omega)
    have hc : slices_Concat.f [l.take m, l.drop (m + 1)] = some (l.take m ++ l.drop (m + 1)) := by
      unfold slices_Concat.f
      rw [if_pos]
      · simp
      · refine ⟨by simp, ?_⟩
        simp only [List.flatten_cons, List.flatten_nil, List.append_nil, List.length_append, List.length_take, List.length_drop]
        omega
    refine Ev.congr (fun k => ?_) (Ev.now (n, l.take m ++ l.drop (m + 1), (0 : Int)))
    simp only [hw, Int.toNat_natCast]
    rw [if_neg (by omega), if_pos (by omega), if_pos (by omega), if_pos (by omega), if_pos (by omega), hc, Option.bind_some]
end
end Go.Proofs.Ytcdcocnljnlkfaa.P3
