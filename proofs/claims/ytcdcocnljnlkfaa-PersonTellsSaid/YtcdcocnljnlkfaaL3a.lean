/- A room's times over numbers: plain. -/
import Derived.Test.YtcdcocnljnlkfaaQ2
import Derived.Test.YtcdcocnljnlkfaaERight
import Derived.Test.YtcdcocnljnlkfaaL2a
import Derived.Test.YtcdcocnljnlkfaaW2a
import Derived.Test.YtcdcocnljnlkfaaW3a
set_option linter.unusedVariables false
set_option linter.unusedSimpArgs false
namespace Go.Proofs.Ytcdcocnljnlkfaa.L3
open Go.RowKit Go.Proofs.YtcdcocnljnlkfaaW.PrintWords Go.Proofs.Ytcdcocnljnlkfaa.M Go.Proofs.Ytcdcocnljnlkfaa.Q Go.Proofs.Ytcdcocnljnlkfaa.L1 Go.Proofs.Ytcdcocnljnlkfaa.L2 Go.Proofs.Ytcdcocnljnlkfaa.W1 Go.Proofs.Ytcdcocnljnlkfaa.W2 Go.Proofs.Ytcdcocnljnlkfaa.W3
def GW (l : List S27) : Prop := ∀ x ∈ l, (0 ≤ x.f0 ∧ x.f0 < 4294967296) ∧ (0 ≤ x.f1 ∧ x.f1 < 256) ∧ (-9223372036854775808 ≤ x.f2 ∧ x.f2 ≤ 9223372036854775807) ∧ (-9223372036854775808 ≤ x.f3 ∧ x.f3 ≤ 9223372036854775807)
theorem GW_of {l : List S27} (h : ∀ x ∈ l, ((Lit.int .u32 x.f0).wf = true ∧ (Lit.int .u8 x.f1).wf = true ∧ (Lit.int .i64 x.f2).wf = true ∧ (Lit.int .i64 x.f3).wf = true)) : GW l :=
  fun x hx => ⟨wf_u32 (h x hx).1, wf_u8 (h x hx).2.1, wf_i64 (h x hx).2.2.1, wf_i64 (h x hx).2.2.2⟩
abbrev RTx (g0 g1 g2 : Int) (x : S27) : Prop := RT g0 g1 g2 x.f0 x.f1 x.f2 x.f3
abbrev MTx (w0 w1 w2 w3 : Int) (x : S27) : Prop := MT x.f0 x.f1 x.f2 x.f3 w0 w1 w2 w3
theorem rd_mem (l : List S27) (i : Nat) (h : i < l.length) : rd_T27 l i ∈ l := by
  rw [rd_at, List.getD_eq_getElem?_getD, List.getElem?_eq_getElem h]
  exact List.getElem_mem h
theorem all_rd {l : List S27} {P : S27 → Prop} : (∀ i : Nat, i < l.length → P (rd_T27 l i)) ↔ ∀ x ∈ l, P x := by
  constructor
  · intro h x hx
    obtain ⟨i, hi, rfl⟩ := List.mem_iff_getElem.mp hx
    have := h i hi
    rw [rd_at, List.getD_eq_getElem?_getD, List.getElem?_eq_getElem hi] at this
    exact this
  · exact fun h i hi => h _ (rd_mem l i hi)
theorem idxf_any {q : S27 → Option Bool} {p : S27 → Prop} [DecidablePred p] : ∀ (l : List S27) (i : Int), 0 ≤ i → (∀ x ∈ l, q x = some (decide (p x))) → ∃ j, idxf q l i = some j ∧ (0 ≤ j ↔ ¬ ∀ x ∈ l, ¬ p x)
  | [], i, _, _ => ⟨-1, rfl, by simp⟩
  | x :: l, i, hi, h => by
    unfold idxf
    rw [h x (List.mem_cons_self ..), Option.bind_some]
    by_cases hp : p x
    · rw [decide_eq_true hp, if_pos rfl]
      exact ⟨i, rfl, fun _ h2 => h2 x (List.mem_cons_self ..) hp, fun _ => hi⟩
    · rw [decide_eq_false hp, if_neg (by decide)]
      obtain ⟨j, e, hj⟩ := idxf_any l (i + 1) (by omega) fun y hy => h y (List.mem_cons_of_mem _ hy)
      refine ⟨j, e, hj.trans ?_⟩
      simp only [List.mem_cons, forall_eq_or_imp, hp, not_false_eq_true, true_and]
section
variable {l : List S27} {w0 w1 w2 w3 g0 g1 g2 : Int}
instance : DecidablePred (RTx g0 g1 g2) := fun _ => inferInstanceAs (Decidable (RT _ _ _ _ _ _ _))
instance : DecidablePred (MTx w0 w1 w2 w3) := fun _ => inferInstanceAs (Decidable (MT _ _ _ _ _ _ _ _))
/-- Is there a time that meets this one? -/
def SHB (l : List S27) (w0 w1 w2 w3 : Int) : Bool := l.any fun x => decide (MTx w0 w1 w2 w3 x)
theorem SHB_false : SHB l w0 w1 w2 w3 = false ↔ ∀ x ∈ l, ¬ MTx w0 w1 w2 w3 x := by
  unfold SHB
  simp only [List.any_eq_false, decide_eq_true_eq]
/-! ### Which rooms may be -/
def NM (n : ByteArray) : Prop := 1 ≤ n.size ∧ n.size ≤ 24
instance {n : ByteArray} : Decidable (NM n) := inferInstanceAs (Decidable (_ ∧ _))
theorem room_Name_f (n : ByteArray) : room_Name.f n = some (decide (NM n)) := by
  unfold room_Name.f
  have hs : n.toList.length = n.size := by rw [ByteArray.toList_eq, Array.length_toList]; rfl
  by_cases h : n.toList = []
  · rw [if_pos h, decide_eq_false (fun h2 : NM n => by unfold NM at h2; rw [h, List.length_nil] at hs; omega)]
  · rw [if_neg h]
    have : n.toList.length ≠ 0 := fun h2 => h (List.eq_nil_of_length_eq_zero h2)
    congr 1
    exact decide_eq_decide.mpr (by unfold NM; omega)
def ALB (l : List S27) (g0 g1 g2 : Int) : Bool := l.all fun x => decide (RTx g0 g1 g2 x)
theorem ALB_true : ALB l g0 g1 g2 = true ↔ ∀ x ∈ l, RTx g0 g1 g2 x := by
  unfold ALB
  simp only [List.all_eq_true, decide_eq_true_eq]
def RRM (g0 g1 g2 : Int) (n : ByteArray) (s : Int) (l : List S27) : Prop := RG g0 g1 g2 ∧ NM n ∧ 0 ≤ s ∧ s ≤ 10000 ∧ l.length ≤ 16 ∧ ALB l g0 g1 g2 = true
instance {n : ByteArray} {s : Int} : Decidable (RRM g0 g1 g2 n s l) := inferInstanceAs (Decidable (_ ∧ _))
theorem room_Right_f {n : ByteArray} {s r2 : Int} (hl : GW l) : room_Right.f g0 g1 g2 n s r2 l = some (decide (RRM g0 g1 g2 n s l)) := by
  unfold room_Right.f
  rw [when_RightGrid_f, Option.bind_some, room_Name_f]
  simp only [Option.bind_some, decide_eq_true_eq]
  by_cases h1 : RG g0 g1 g2
  · by_cases h2 : NM n
    · by_cases h3 : 0 ≤ s
      · by_cases h4 : s ≤ 10000
        · by_cases h5 : l.length ≤ 16
          · rw [if_pos h1, if_pos h2, if_pos h3, if_pos h4, if_pos h5]
            obtain ⟨j, e, hj⟩ := idxf_any (q := oddq g0 g1 g2) (p := fun x => ¬ RTx g0 g1 g2 x) l 0 (by omega) fun x hx => by
              unfold oddq
              rw [when_Right_f (hl x hx).1 (hl x hx).2.1, Option.bind_some]
              simp
            rw [e, Option.bind_some]
            congr 1
            have hj2 : 0 ≤ j ↔ ¬ ALB l g0 g1 g2 = true := hj.trans (not_congr ((by simp only [Classical.not_not]) : (∀ x ∈ l, ¬ ¬ RTx g0 g1 g2 x) ↔ ∀ x ∈ l, RTx g0 g1 g2 x) |>.trans (not_congr ALB_true.symm))
            have hR : RRM g0 g1 g2 n s l ↔ ALB l g0 g1 g2 = true := ⟨fun h => h.2.2.2.2.2, fun h => ⟨h1, h2, h3, h4, h5, h⟩⟩
            simp only [hR, hj2]
            cases ALB l g0 g1 g2 <;> rfl
          · rw [if_pos h1, if_pos h2, if_pos h3, if_pos h4, if_neg h5, decide_eq_false (fun h => h5 h.2.2.2.2.1)]
        · rw [if_pos h1, if_pos h2, if_pos h3, if_neg h4, decide_eq_false (fun h => h4 h.2.2.2.1)]
      · rw [if_pos h1, if_pos h2, if_neg h3, decide_eq_false (fun h => h3 h.2.2.1)]
    · rw [if_pos h1, if_neg h2, decide_eq_false (fun h => h2 h.2.1)]
  · rw [if_neg h1, decide_eq_false (fun h => h1 h.1)]
end
end Go.Proofs.Ytcdcocnljnlkfaa.L3
