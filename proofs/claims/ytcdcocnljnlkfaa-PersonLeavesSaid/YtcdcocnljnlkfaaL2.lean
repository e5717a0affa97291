/- Two lists of times, place by place: plain. -/
import Derived.Test.YtcdcocnljnlkfaaQ18
import Derived.Test.YtcdcocnljnlkfaaQ19
import Derived.Test.YtcdcocnljnlkfaaM
import Derived.Test.YtcdcocnljnlkfaaL2a
namespace Go.Proofs.Ytcdcocnljnlkfaa.L2
open Go.RowKit Go.Proofs.YtcdcocnljnlkfaaW.PrintWords Go.Proofs.Ytcdcocnljnlkfaa.M Go.Proofs.Ytcdcocnljnlkfaa.Q Go.Proofs.Ytcdcocnljnlkfaa.L1
theorem ne_T (x y : S27) : (!(x.f0 == y.f0) || (!(x.f1 == y.f1) || (!(x.f2 == y.f2) || (!(x.f3 == y.f3))))) = true ↔ ¬ x = y := by
  obtain ⟨x0, x1, x2, x3⟩ := x
  obtain ⟨y0, y1, y2, y3⟩ := y
  simp only [Bool.or_eq_true, Bool.not_eq_true', beq_eq_false_iff_ne, ne_eq, S27.mk.injEq]
  constructor
  · intro h he
    obtain ⟨e0, e1, e2, e3⟩ := he
    simp_all
  · intro h
    by_cases e0 : x0 = y0
    · by_cases e1 : x1 = y1
      · by_cases e2 : x2 = y2
        · exact Or.inr (Or.inr (Or.inr fun e3 => h ⟨e0, e1, e2, e3⟩))
        · exact Or.inr (Or.inr (Or.inl e2))
      · exact Or.inr (Or.inl e1)
    · exact Or.inl e0
theorem eq_rd {a b : List S27} (hl : a.length = b.length) : a = b ↔ ∀ i : Nat, i < a.length → rd_T27 a i = rd_T27 b i := by
  constructor
  · rintro rfl _ _; rfl
  · intro h
    refine List.ext_getElem hl fun i h1 h2 => ?_
    have := h i h1
    rw [rd_at, rd_at, List.getD_eq_getElem?_getD, List.getD_eq_getElem?_getD, List.getElem?_eq_getElem h1, List.getElem?_eq_getElem h2] at this
    exact this
theorem Equal_f {a b : List S27} (hm : a.length < 1000000) : (a = b → Ev (fun k => api_When_38.f k a b) true) ∧ (¬ a = b → Ev (fun k => api_When_38.f k a b) false) := by
  by_cases hl : a.length = b.length
  · have h0 : ∀ r, Ev (fun k => api_When_38.l0 k a b (a.length : Int) 0) r → Ev (fun k => api_When_38.f k a b) r := by
      intro r h
      refine Ev.congr (fun k => ?_) h
      unfold api_When_38.f
      rw [if_pos (by omega)]
    have := loop_all (L := fun k i => api_When_38.l0 k a b (a.length : Int) i) (n := a.length) (P := fun i => rd_T27 a i = rd_T27 b i) (re := true) (rb := false) ?_ ?_ ?_
    · rw [eq_rd hl]
      exact ⟨fun h => h0 _ (this.1 h), fun h => h0 _ (this.2 h)⟩
    · intro i hi hp r h
      refine Ev.step (fun k => ?_) h
      simp only [api_When_38.l0]
      rw [if_pos (by omega), if_pos (by omega), if_pos (by omega), if_pos (by omega), if_neg (fun hc => (ne_T _ _).mp hc hp), w64s (by omega)]
    · intro i hi hp
      refine Ev.step (fun k => ?_) (Ev.now false)
      simp only [api_When_38.l0]
      rw [if_pos (by omega), if_pos (by omega), if_pos (by omega), if_pos (by omega), if_pos ((ne_T _ _).mpr hp)]
    · intro _
      refine Ev.step (fun k => ?_) (Ev.now true)
      simp only [api_When_38.l0]
      rw [if_neg (by omega)]
  · refine ⟨fun h => absurd (congrArg List.length h) hl, fun _ => Ev.congr (fun k => ?_) (Ev.now false)⟩
    unfold api_When_38.f
    rw [if_neg (by omega)]
theorem Rows_f {a b : List S27} (hm : a.length < 1000000) : (a = b → Ev (fun k => horariumref11_Rows.f k a b) true) ∧ (¬ a = b → Ev (fun k => horariumref11_Rows.f k a b) false) := by
  by_cases hl : a.length = b.length
  · have h0 : ∀ r, Ev (fun k => horariumref11_Rows.l0 k a b 0) r → Ev (fun k => horariumref11_Rows.f k a b) r := by
      intro r h
      refine Ev.congr (fun k => ?_) h
      unfold horariumref11_Rows.f
      rw [if_pos (by omega)]
    have := loop_all (L := fun k i => horariumref11_Rows.l0 k a b i) (n := a.length) (P := fun i => rd_T27 a i = rd_T27 b i) (re := true) (rb := false) ?_ ?_ ?_
    · rw [eq_rd hl]
      exact ⟨fun h => h0 _ (this.1 h), fun h => h0 _ (this.2 h)⟩
    · intro i hi hp r h
      refine Ev.step (fun k => ?_) h
      simp only [horariumref11_Rows.l0]
      rw [if_pos (by omega), if_pos (by omega), if_pos (by omega), if_neg (fun hc => (ne_T _ _).mp hc hp), w64s (by omega)]
    · intro i hi hp
      refine Ev.step (fun k => ?_) (Ev.now false)
      simp only [horariumref11_Rows.l0]
      rw [if_pos (by omega), if_pos (by omega), if_pos (by omega), if_pos ((ne_T _ _).mpr hp)]
    · intro _
      refine Ev.step (fun k => ?_) (Ev.now true)
      simp only [horariumref11_Rows.l0]
      rw [if_neg (by omega)]
  · refine ⟨fun h => absurd (congrArg List.length h) hl, fun _ => Ev.congr (fun k => ?_) (Ev.now false)⟩
    unfold horariumref11_Rows.f
    rw [if_neg (by omega)]
end Go.Proofs.Ytcdcocnljnlkfaa.L2
