/- The law RoomCloses, over numbers alone. -/
import Derived.Test.YtdbbmnhaiejnjaaQ35
import Derived.Test.YtdbbmnhaiejnjaaL5
import Derived.Test.YtdbbmnhaiejnjaaL2
set_option linter.unusedVariables false
set_option linter.unusedSimpArgs false
namespace Go.Proofs.Ytdbbmnhaiejnjaa.Pure
open Go.RowKit Go.Proofs.YtdbbmnhaiejnjaaW.PrintWords Go.Proofs.YtdbbmnhaiejnjaaW.PrintLast Go.Proofs.YtdbbmnhaiejnjaaW.PrintMore Go.Proofs.Ytdbbmnhaiejnjaa.M Go.Proofs.Ytdbbmnhaiejnjaa.Q Go.Proofs.Ytdbbmnhaiejnjaa.L1 Go.Proofs.Ytdbbmnhaiejnjaa.L2 Go.Proofs.Ytdbbmnhaiejnjaa.L5
theorem heads_ev : Ev (fun k => horariumlaw11_heads.f k) true := Ev.of (fun k => horariumlaw11_heads.mono k) (k := 60) (by decide +kernel)
theorem same_ev {n : ByteArray} {s g : Int} {l : List S38} (hm : l.length < 1000000) : Ev (fun k => horariumref11_Same.f k n s g l n s g l) true := by
  unfold horariumref11_Same.f
  simp only [if_true]
  exact Ev.bind ((Rows_f hm).1 rfl) (Ev.now _)
section
variable {l : List S38} {n : ByteArray} {s g w0 w1 w2 w3 : Int}
theorem More_f (hm : l.length < 1000000) : horariumref11_More.f l w0 w1 w2 w3 = some (if l.length ≥ 16 then (([] : List S38), 9) else (l ++ [⟨w0, w1, w2, w3⟩], 0)) := by
  unfold horariumref11_More.f
  by_cases h : l.length ≥ 16
  · rw [if_pos (by omega), if_pos h]
  · rw [if_neg (by omega), if_neg h]
    simp only [Option.bind_some, List.length_nil, List.nil_append, List.length_singleton]
    rw [if_pos (by omega), if_pos (by omega)]
theorem Fewer_f (hm : l.length < 1000000) :
    ((∀ i : Nat, i < l.length → ¬ rd_T38 l i = ⟨w0, w1, w2, w3⟩) → Ev (fun k => horariumref11_Fewer.f k l w0 w1 w2 w3) (([] : List S38), 8)) ∧
    (∀ m : Nat, m < l.length → rd_T38 l m = ⟨w0, w1, w2, w3⟩ → (∀ i : Nat, i < m → ¬ rd_T38 l i = ⟨w0, w1, w2, w3⟩) → Ev (fun k => horariumref11_Fewer.f k l w0 w1 w2 w3) (l.take m ++ l.drop (m + 1), 0)) := by
  refine loop_first (L := fun k i => horariumref11_Fewer.l0 k l i w0 w1 w2 w3) (P := fun i => rd_T38 l i = ⟨w0, w1, w2, w3⟩) (rb := fun m => (l.take m ++ l.drop (m + 1), (0 : Int))) ?_ ?_ ?_
  · intro i hi hp r h
    refine Ev.step (fun k => ?_) h
    simp only [horariumref11_Fewer.l0]
    rw [if_pos (by omega), if_pos (by omega), if_neg (fun hc => hp ((eq_T _).mp hc)), w64s (by omega)]
  · intro i hi hp
    refine Ev.step (fun k => ?_) (Ev.now _)
    simp only [horariumref11_Fewer.l0]
    have hw : wrap64 ((i : Int) + 1) = ((i + 1 : Nat) : Int) := w64s (by omega)
    rw [if_pos (by omega), if_pos (by omega), if_pos ((eq_T _).mpr hp)]
    simp only [hw, Option.bind_some, Int.toNat_natCast, List.length_nil, List.nil_append, List.length_take, List.length_drop]
    rw [if_pos (by omega), if_pos (by omega), if_pos (by omega), if_pos (by omega), if_pos (by omega)]
  · refine Ev.step (fun k => ?_) (Ev.now _)
    simp only [horariumref11_Fewer.l0]
    rw [if_neg (by omega)]
end
theorem RoomCloses : ∀ (a0_0 : ByteArray) (a0_1 : Int) (a0_2 : Int) (l0_3 : List (S38)) (a1_0 : Int) (a1_1 : Int) (a1_2 : Int) (a1_3 : Int), a0_0.size ≤ maxLen → (Lit.int .i64 a0_1).wf = true → (Lit.int .u16 a0_2).wf = true → (∀ x ∈ l0_3, ((Lit.int .u32 x.f0).wf = true ∧ (Lit.int .u8 x.f1).wf = true ∧ (Lit.int .i64 x.f2).wf = true ∧ (Lit.int .i64 x.f3).wf = true)) → (Lit.int .u32 a1_0).wf = true → (Lit.int .u8 a1_1).wf = true → (Lit.int .i64 a1_2).wf = true → (Lit.int .i64 a1_3).wf = true → ∃ k, horariumlaw11_RoomCloses.f k a0_0 a0_1 a0_2 l0_3 a1_0 a1_1 a1_2 a1_3 = some true := by
  intro n s g l w0 w1 w2 w3 _ _ _ _ _ _ _ _
  refine Ev.rounds ?_
  unfold horariumlaw11_RoomCloses.f horariumlaw11_few.f
  simp only [Option.bind_some, decide_eq_true_eq]
  by_cases h30 : (l.length : Int) ≤ 30
  · simp only [if_pos h30]
    have hm : l.length < 1000000 := by omega
    simp only [Close_f hm, More_f hm, Option.bind_some]
    have hR := Reopen_f (n := n) (s := s) (g := g) (w0 := w0) (w1 := w1) (w2 := w2) (w3 := w3) hm
    have hF := Fewer_f (w0 := w0) (w1 := w1) (w2 := w2) (w3 := w3) hm
    have hx : ∃ (x : ByteArray × Int × Int × List S38 × Int) (y : List S38 × Int), Ev (fun k => room_Reopen.f k n s g l w0 w1 w2 w3) x ∧ Ev (fun k => horariumref11_Fewer.f k l w0 w1 w2 w3) y ∧ x.2.2.2.2 = y.2 ∧ horariumref11_Closed.f n s g l y.1 y.2 = some (x.1, x.2.1, x.2.2.1, x.2.2.2.1) ∧ x.2.2.2.1.length < 1000000 := by
      rcases first_or l.length (fun i => rd_T38 l i = ⟨w0, w1, w2, w3⟩) with h | ⟨m, h1, h2, h3⟩
      · exact ⟨_, _, hR.1 h, hF.1 h, rfl, by unfold horariumref11_Closed.f; rw [if_neg (by decide)], by simp⟩
      · refine ⟨_, _, hR.2 m h1 h2 h3, hF.2 m h1 h2 h3, rfl, by unfold horariumref11_Closed.f; rw [if_pos rfl], ?_⟩
        simp only [List.length_append, List.length_take, List.length_drop]
        omega
    obtain ⟨⟨n2, s2, g2, l2, e2⟩, ⟨m2, f2⟩, hx1, hx2, hx3, hx4, hx5⟩ := hx
    simp only at hx3 hx4 hx5
    subst hx3
    refine Ev.bind hx1 (Ev.bind hx2 ?_)
    by_cases h16 : l.length ≥ 16
    · simp only [if_pos h16, horariumref11_Closed.f, if_neg (show ¬ (9 : Int) = 0 by decide), Option.bind_some]
      refine Ev.bind (same_ev (by simp)) ?_
      simp only [if_true]
      unfold horariumref11_Closed.f at hx4
      simp only [hx4, Option.bind_some]
      refine Ev.bind (same_ev hx5) ?_
      simp only [if_true]
      exact Ev.bind heads_ev (Ev.now _)
    · simp only [if_neg h16, horariumref11_Closed.f, if_true, Option.bind_some]
      refine Ev.bind (same_ev (by simp; omega)) ?_
      simp only [if_true]
      unfold horariumref11_Closed.f at hx4
      simp only [hx4, Option.bind_some]
      refine Ev.bind (same_ev hx5) ?_
      simp only [if_true]
      exact Ev.bind heads_ev (Ev.now _)
  · simp only [if_neg h30]
    exact Ev.bind heads_ev (Ev.now _)
end Go.Proofs.Ytdbbmnhaiejnjaa.Pure
