/- The law RoomSames, over numbers alone. -/
import Derived.Test.YtdbbmnhaiejnjaaQ13
import Derived.Test.YtdbbmnhaiejnjaaL2
namespace Go.Proofs.Ytdbbmnhaiejnjaa.Pure
open Go.RowKit Go.Proofs.YtdbbmnhaiejnjaaW.PrintWords Go.Proofs.YtdbbmnhaiejnjaaW.PrintLast Go.Proofs.YtdbbmnhaiejnjaaW.PrintMore Go.Proofs.Ytdbbmnhaiejnjaa.M Go.Proofs.Ytdbbmnhaiejnjaa.Q Go.Proofs.Ytdbbmnhaiejnjaa.L1 Go.Proofs.Ytdbbmnhaiejnjaa.L2
theorem heads_ev : Ev (fun k => horariumlaw11_heads.f k) true := Ev.of (fun k => horariumlaw11_heads.mono k) (k := 60) (by decide +kernel)
section
variable {n m : ByteArray} {s t g h : Int} {a b : List S38}
theorem both (hm : a.length < 1000000) : ∃ r, Ev (fun k => room_Same.f k n s g a m t h b) r ∧ Ev (fun k => horariumref11_Same.f k n s g a m t h b) r ∧ (n = m → s = t → g = h → a = b → r = true) := by
  by_cases h0 : n.toList = m.toList
  · by_cases h1 : s = t
    · by_cases h2 : g = h
      · have hx : ∃ r, Ev (fun k => api_When_35.f k a b) r ∧ Ev (fun k => horariumref11_Rows.f k a b) r ∧ (a = b → r = true) := by
          by_cases h3 : a = b
          · exact ⟨_, (Equal_f hm).1 h3, (Rows_f hm).1 h3, fun _ => rfl⟩
          · exact ⟨_, (Equal_f hm).2 h3, (Rows_f hm).2 h3, fun h4 => absurd h4 h3⟩
        obtain ⟨r, e1, e2, e3⟩ := hx
        refine ⟨r, ?_, ?_, fun _ _ _ h4 => e3 h4⟩
        · unfold room_Same.f
          simp only [if_pos h0, if_pos h1, if_pos h2]
          exact Ev.bind e1 (Ev.now _)
        · unfold horariumref11_Same.f
          simp only [if_pos h0, if_pos h1, if_pos h2]
          exact Ev.bind e2 (Ev.now _)
      · refine ⟨false, ?_, ?_, fun _ _ e _ => absurd e h2⟩
        · unfold room_Same.f
          simp only [if_pos h0, if_pos h1, if_neg h2]
          exact Ev.now _
        · unfold horariumref11_Same.f
          simp only [if_pos h0, if_pos h1, if_neg h2]
          exact Ev.now _
    · refine ⟨false, ?_, ?_, fun _ e _ _ => absurd e h1⟩
      · unfold room_Same.f
        simp only [if_pos h0, if_neg h1]
        exact Ev.now _
      · unfold horariumref11_Same.f
        simp only [if_pos h0, if_neg h1]
        exact Ev.now _
  · refine ⟨false, ?_, ?_, fun e _ _ _ => absurd (congrArg ByteArray.toList e) h0⟩
    · unfold room_Same.f
      simp only [if_neg h0]
      exact Ev.now _
    · unfold horariumref11_Same.f
      simp only [if_neg h0]
      exact Ev.now _
end
theorem RoomSames : ∀ (a0_0 : ByteArray) (a0_1 : Int) (a0_2 : Int) (l0_3 : List S38) (a1_0 : ByteArray) (a1_1 : Int) (a1_2 : Int) (l1_3 : List S38), a0_0.size ≤ maxLen → (Lit.int .i64 a0_1).wf = true → (Lit.int .u16 a0_2).wf = true → (∀ x ∈ l0_3, ((Lit.int .u32 x.f0).wf = true ∧ (Lit.int .u8 x.f1).wf = true ∧ (Lit.int .i64 x.f2).wf = true ∧ (Lit.int .i64 x.f3).wf = true)) → a1_0.size ≤ maxLen → (Lit.int .i64 a1_1).wf = true → (Lit.int .u16 a1_2).wf = true → (∀ x ∈ l1_3, ((Lit.int .u32 x.f0).wf = true ∧ (Lit.int .u8 x.f1).wf = true ∧ (Lit.int .i64 x.f2).wf = true ∧ (Lit.int .i64 x.f3).wf = true)) → ∃ k, horariumlaw11_RoomSames.f k a0_0 a0_1 a0_2 l0_3 a1_0 a1_1 a1_2 l1_3 = some true := by
  intro n s g a m t h b _ _ _ _ _ _ _ _
  refine Ev.rounds ?_
  unfold horariumlaw11_RoomSames.f horariumlaw11_few.f
  simp only [Option.bind_some, decide_eq_true_eq]
  by_cases h0 : (a.length : Int) ≤ 30
  · by_cases h1 : (b.length : Int) ≤ 30
    · simp only [if_pos h0, if_pos h1]
      obtain ⟨r, e1, e2, _⟩ := both (n := n) (m := m) (s := s) (t := t) (g := g) (h := h) (a := a) (b := b) (by omega)
      obtain ⟨r2, e3, _, e5⟩ := both (n := n) (m := n) (s := s) (t := s) (g := g) (h := g) (a := a) (b := a) (by omega)
      obtain rfl := e5 rfl rfl rfl rfl
      refine Ev.bind e1 (Ev.bind e2 ?_)
      simp only [beq_self_eq_true, if_true]
      exact Ev.bind e3 (Ev.bind heads_ev (Ev.now _))
    · simp only [if_pos h0, if_neg h1]
      exact Ev.bind heads_ev (Ev.now _)
  · simp only [if_neg h0]
    exact Ev.bind heads_ev (Ev.now _)
end Go.Proofs.Ytdbbmnhaiejnjaa.Pure
