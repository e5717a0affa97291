/- The law PersonLeaves, over numbers alone. -/
import Derived.Test.YtcdcocnljnlkfaaQ20
import Derived.Test.YtcdcocnljnlkfaaP3
import Derived.Test.YtcdcocnljnlkfaaL2
set_option linter.unusedVariables false
set_option linter.unusedSimpArgs false
namespace Go.Proofs.Ytcdcocnljnlkfaa.Pure
open Go.RowKit Go.Proofs.YtcdcocnljnlkfaaW.PrintWords Go.Proofs.YtcdcocnljnlkfaaW.PrintLast Go.Proofs.YtcdcocnljnlkfaaW.PrintMore Go.Proofs.Ytcdcocnljnlkfaa.M Go.Proofs.Ytcdcocnljnlkfaa.Q Go.Proofs.Ytcdcocnljnlkfaa.L1 Go.Proofs.Ytcdcocnljnlkfaa.L2 Go.Proofs.Ytcdcocnljnlkfaa.P3
theorem heads_ev : Ev (fun k => horariumlaw12_heads.f k) true := Ev.of (fun k => horariumlaw12_heads.mono k) (k := 60) (by decide +kernel)
theorem same_ev {n : ByteArray} {l : List S27} (hm : l.length < 1000000) : Ev (fun k => horariumref12_Same.f k n l n l) true := by
  unfold horariumref12_Same.f
  simp only [if_true]
  exact Ev.bind ((Rows_f hm).1 rfl) (Ev.now _)
open Classical in
theorem same2_ev {n m : ByteArray} {l j : List S27} (hm : l.length < 1000000) : Ev (fun k => horariumref12_Same.f k n l m j) (decide (n.toList = m.toList ∧ l = j)) := by
  unfold horariumref12_Same.f
  by_cases h : n.toList = m.toList
  · simp only [if_pos h]
    by_cases h2 : l = j
    · rw [decide_eq_true ⟨h, h2⟩]
      exact Ev.bind ((Rows_f hm).1 h2) (Ev.now _)
    · rw [decide_eq_false (fun h3 => h2 h3.2)]
      exact Ev.bind ((Rows_f hm).2 h2) (Ev.now _)
  · simp only [if_neg h]
    rw [decide_eq_false (fun h3 => h h3.1)]
    exact Ev.now _
open Classical in
theorem psame2_ev {n m : ByteArray} {l j : List S27} (hm : l.length < 1000000) : Ev (fun k => person_Same.f k n l m j) (decide (n.toList = m.toList ∧ l = j)) := by
  unfold person_Same.f
  by_cases h : n.toList = m.toList
  · simp only [if_pos h]
    by_cases h2 : l = j
    · rw [decide_eq_true ⟨h, h2⟩]
      exact Ev.bind ((Equal_f hm).1 h2) (Ev.now _)
    · rw [decide_eq_false (fun h3 => h2 h3.2)]
      exact Ev.bind ((Equal_f hm).2 h2) (Ev.now _)
  · simp only [if_neg h]
    rw [decide_eq_false (fun h3 => h h3.1)]
    exact Ev.now _
open Classical in
theorem psame_ev {n : ByteArray} {l : List S27} (hm : l.length < 1000000) : Ev (fun k => person_Same.f k n l n l) true := by
  have := psame2_ev (n := n) (m := n) (l := l) (j := l) hm
  rwa [decide_eq_true (And.intro rfl rfl)] at this
section
variable {l : List S27} {n : ByteArray} {w0 w1 w2 w3 : Int}
theorem More_f (hm : l.length < 1000000) : horariumref11_More.f l w0 w1 w2 w3 = some (if l.length ≥ 16 then (([] : List S27), 9) else (l ++ [⟨w0, w1, w2, w3⟩], 0)) := by
  unfold horariumref11_More.f
  by_cases h : l.length ≥ 16
  · rw [if_pos (by omega), if_pos h]
  · rw [if_neg (by omega), if_neg h]
    simp only [Option.bind_some, List.length_nil, List.nil_append, List.length_singleton]
    rw [if_pos (by omega), if_pos (by omega)]
theorem Fewer_f (hm : l.length < 1000000) :
    ((∀ i : Nat, i < l.length → ¬ rd_T27 l i = ⟨w0, w1, w2, w3⟩) → Ev (fun k => horariumref11_Fewer.f k l w0 w1 w2 w3) (([] : List S27), 8)) ∧
    (∀ m : Nat, m < l.length → rd_T27 l m = ⟨w0, w1, w2, w3⟩ → (∀ i : Nat, i < m → ¬ rd_T27 l i = ⟨w0, w1, w2, w3⟩) → Ev (fun k => horariumref11_Fewer.f k l w0 w1 w2 w3) (l.take m ++ l.drop (m + 1), 0)) := by
  refine loop_first (L := fun k i => horariumref11_Fewer.l0 k l i w0 w1 w2 w3) (P := fun i => rd_T27 l i = ⟨w0, w1, w2, w3⟩) (rb := fun m => (l.take m ++ l.drop (m + 1), (0 : Int))) ?_ ?_ ?_
  · intro i hi hp r h
    refine Ev.step (fun k => ?_) h
    simp only [horariumref11_Fewer.l0]
    rw [if_pos (by omega), if_pos (by omega), if_neg (fun hc => hp ((eq_T _).mp hc)), w64s (by omega)]
  · intro i hi hp
    refine Ev.step (fun k => ?_) (Ev.now _)
    simp only [horariumref11_Fewer.l0]
    have hw : wrap64 ((i : Int) + 1) = ((i + 1 : Nat) : Int) := w64s (by omega)
    rw [if_pos (by omega), if_pos (by omega), if_pos ((eq_T _).mpr hp)]
    simp only [hw, Option.bind_some, Int.toNat_natCast, List.length_nil, List.nil_append, List.length_take, List.length_drop]
    rw [if_pos (by omega), if_pos (by omega), if_pos (by omega), if_pos (by omega), if_pos (by omega)]
  · refine Ev.step (fun k => ?_) (Ev.now _)
    simp only [horariumref11_Fewer.l0]
    rw [if_neg (by omega)]
end
theorem PersonLeaves : ∀ (a0_0 : ByteArray) (l0_1 : List (S27)) (a1_0 : Int) (a1_1 : Int) (a1_2 : Int) (a1_3 : Int), a0_0.size ≤ maxLen → (∀ x ∈ l0_1, ((Lit.int .u32 x.f0).wf = true ∧ (Lit.int .u8 x.f1).wf = true ∧ (Lit.int .i64 x.f2).wf = true ∧ (Lit.int .i64 x.f3).wf = true)) → (Lit.int .u32 a1_0).wf = true → (Lit.int .u8 a1_1).wf = true → (Lit.int .i64 a1_2).wf = true → (Lit.int .i64 a1_3).wf = true → ∃ k, horariumlaw12_PersonLeaves.f k a0_0 l0_1 a1_0 a1_1 a1_2 a1_3 = some true := by
  intro n l w0 w1 w2 w3 _ _ _ _ _ _
  refine Ev.rounds ?_
  unfold horariumlaw12_PersonLeaves.f horariumlaw12_few.f
  simp only [Option.bind_some, decide_eq_true_eq]
  by_cases h30 : (l.length : Int) ≤ 30
  · simp only [if_pos h30]
    have hm : l.length < 1000000 := by omega
    simp only [Leave_f hm, More_f hm, Option.bind_some]
    have hR := Return_f (n := n) (w0 := w0) (w1 := w1) (w2 := w2) (w3 := w3) hm
    have hF := Fewer_f (w0 := w0) (w1 := w1) (w2 := w2) (w3 := w3) hm
    have hx : ∃ (x : ByteArray × List S27 × Int) (y : List S27 × Int), Ev (fun k => person_Return.f k n l w0 w1 w2 w3) x ∧ Ev (fun k => horariumref11_Fewer.f k l w0 w1 w2 w3) y ∧ x.2.2 = y.2 ∧ horariumref12_Gone.f n l y.1 y.2 = some (x.1, x.2.1) ∧ x.2.1.length < 1000000 := by
      rcases first_or l.length (fun i => rd_T27 l i = ⟨w0, w1, w2, w3⟩) with h | ⟨m, h1, h2, h3⟩
      · exact ⟨_, _, hR.1 h, hF.1 h, rfl, by unfold horariumref12_Gone.f; rw [if_neg (by decide)], by simp⟩
      · refine ⟨_, _, hR.2 m h1 h2 h3, hF.2 m h1 h2 h3, rfl, by unfold horariumref12_Gone.f; rw [if_pos rfl], ?_⟩
        simp only [List.length_append, List.length_take, List.length_drop]
        omega
    obtain ⟨⟨n2, l2, e2⟩, ⟨m2, f2⟩, hx1, hx2, hx3, hx4, hx5⟩ := hx
    simp only at hx3 hx4 hx5
    subst hx3
    refine Ev.bind hx1 (Ev.bind hx2 ?_)
    have hg : ∃ (c : ByteArray) (q : List S27) (e : Int) (y : List S27), (if l.length ≥ 16 then ((⟨#[]⟩ : ByteArray), ([] : List S27), (9 : Int)) else (n, l ++ [⟨w0, w1, w2, w3⟩], 0)) = (c, q, e) ∧ (if l.length ≥ 16 then (([] : List S27), (9 : Int)) else (l ++ [⟨w0, w1, w2, w3⟩], 0)) = (y, e) ∧ horariumref12_Gone.f n l y e = some (c, q) ∧ q.length < 1000000 := by
      by_cases h16 : l.length ≥ 16
      · exact ⟨_, _, _, _, by rw [if_pos h16], by rw [if_pos h16], by unfold horariumref12_Gone.f; rw [if_neg (by decide)], by simp⟩
      · exact ⟨_, _, _, _, by rw [if_neg h16], by rw [if_neg h16], by unfold horariumref12_Gone.f; rw [if_pos rfl], by simp; omega⟩
    obtain ⟨c, q, e, y, g1, g2, g3, g4⟩ := hg
    simp only [g1, g2, g3, hx4, Option.bind_some]
    refine Ev.bind (same_ev g4) ?_
    simp only [if_true]
    refine Ev.bind (same_ev hx5) ?_
    simp only [if_true]
    refine Ev.bind (psame_ev g4) ?_
    simp only [if_true]
    refine Ev.bind (psame2_ev g4) (Ev.bind (same2_ev g4) ?_)
    simp only [beq_self_eq_true, if_true]
    exact Ev.bind heads_ev (Ev.now _)
  · simp only [if_neg h30]
    exact Ev.bind heads_ev (Ev.now _)
end Go.Proofs.Ytcdcocnljnlkfaa.Pure
