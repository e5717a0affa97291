/- Which times meet, by the document's answer (SameDay printed with joins); plain. -/
import Derived.Test.YtddheiloodfkdaaQ17
import Derived.Test.YtddheiloodfkdaaQ18
import Derived.Test.YtddheiloodfkdaaQ19
import Derived.Test.YtddheiloodfkdaaW3a
namespace Go.Proofs.Ytddheiloodfkdaa.W3
open Go.RowKit Go.Proofs.YtddheiloodfkdaaW.PrintWords Go.Proofs.YtddheiloodfkdaaW.PrintLast Go.Proofs.YtddheiloodfkdaaW.PrintMore Go.Proofs.Ytddheiloodfkdaa.M Go.Proofs.Ytddheiloodfkdaa.Q Go.Proofs.Ytddheiloodfkdaa.W1
section
variable {aw ad ap al bw bd bp bl : Int}
/-! ### The document's answer -/
theorem ref_SameDay_l0 (u0 : 0 ≤ aw ∧ aw < 4294967296) (u1 : 0 ≤ ad ∧ ad < 256) (v0 : 0 ≤ bw ∧ bw < 4294967296) (v1 : 0 ≤ bd ∧ bd < 256) (d : Nat) : ∀ (i : Nat) (x5 x6 : Bool), i ≤ 32 → 32 - i = d →
    ∃ r, Ev (fun k => horariumref09_SameDay.l0 k x5 x6 i aw ad ap al bw bd bp bl) r ∧
      (r = true ↔ TM ap al ∧ TM bp bl ∧ (x5 = true ∨ ∃ j : Nat, i ≤ j ∧ j < 32 ∧ tb aw j = true ∧ tb bw j = true) ∧ (x6 = true ∨ ∃ j : Nat, i ≤ j ∧ j < 8 ∧ tb ad j = true ∧ tb bd j = true)) := by
  induction d with
  | zero =>
    intro i x5 x6 hi hd
    have hn : ¬ (i : Int) < 32 := by omega
    refine ⟨decide (TM ap al) && (decide (TM bp bl) && (x5 && x6)), Ev.step (f := fun _ => some _) (fun k => ?_) (Ev.now _), ?_⟩
    · simp only [horariumref09_SameDay.l0]
      rw [if_neg hn, ref_Tame_f, ref_Tame_f, Option.bind_some, Option.bind_some]
      by_cases h1 : TM ap al <;> by_cases h2 : TM bp bl <;> cases x5 <;> simp [h1, h2]
    · simp only [Bool.and_eq_true, decide_eq_true_eq]
      constructor
      · rintro ⟨h1, h2, h3, h4⟩
        exact ⟨h1, h2, .inl h3, .inl h4⟩
      · rintro ⟨h1, h2, h3 | ⟨j, h3, h3', _⟩, h4 | ⟨j2, h4, h4', _⟩⟩
        · exact ⟨h1, h2, h3, h4⟩
        · omega
        · omega
        · omega
  | succ d ih =>
    intro i x5 x6 hi hd
    have hp : (i : Int) < 32 := by omega
    have n0 : (0 : Int) ≤ i := Int.natCast_nonneg _
    have a0 := Aside0.mk (ref_bit_f (x := aw) (i := (i : Int)) u0 ⟨n0, by omega⟩)
    have b0 := Aside0.mk (ref_bit_f (x := bw) (i := (i : Int)) v0 ⟨n0, by omega⟩)
    have a1 := Aside0.mk (ref_bit_f (x := ad) (i := (i : Int)) ⟨u1.1, by omega⟩ ⟨n0, by omega⟩)
    have b1 := Aside0.mk (ref_bit_f (x := bd) (i := (i : Int)) ⟨v1.1, by omega⟩ ⟨n0, by omega⟩)
    have m1 : ad % 4294967296 = ad := by omega
    have m2 : bd % 4294967296 = bd := by omega
    have h8 : ((i : Int) < 8) ↔ i < 8 := by omega
    have hw := Aside0.mk (w64s (n := i) (by omega))
    obtain ⟨r, hr, e⟩ := ih (i + 1) (x5 || (tb aw i && tb bw i)) (x6 || (decide (i < 8) && (tb ad i && tb bd i))) (by omega) (by omega)
    refine ⟨r, Ev.step (f := fun k => horariumref09_SameDay.j1 k (x5 || (tb aw i && tb bw i)) x6 i aw ad ap al bw bd bp bl) (fun k => ?_) (Ev.step (fun k => ?_) hr), ?_⟩
    · simp only [horariumref09_SameDay.l0]
      rw [if_pos hp, a0.out, b0.out]
      simp only [Option.bind_some]
      cases x5 <;> cases tb aw i <;> cases tb bw i <;> simp
    · simp only [horariumref09_SameDay.j1]
      rw [m1, m2, a1.out, b1.out, hw.out]
      simp only [Option.bind_some]
      by_cases h8' : i < 8
      · have q8 := h8.mpr h8'
        simp only [if_pos q8]
        cases x6 <;> cases tb ad i <;> cases tb bd i <;> simp [h8']
      · have q8 : ¬ (i : Int) < 8 := fun h => h8' (h8.mp h)
        simp only [if_neg q8]
        cases x6 <;> simp [h8']
    · rw [e]
      have s1 : ((x5 || (tb aw i && tb bw i)) = true ∨ ∃ j : Nat, i + 1 ≤ j ∧ j < 32 ∧ tb aw j = true ∧ tb bw j = true) ↔ (x5 = true ∨ ∃ j : Nat, i ≤ j ∧ j < 32 ∧ tb aw j = true ∧ tb bw j = true) := by
        simp only [Bool.or_eq_true, Bool.and_eq_true]
        constructor
        · rintro ((h | h) | ⟨j, h1, h2⟩)
          · exact .inl h
          · exact .inr ⟨i, Nat.le_refl _, by omega, h⟩
          · exact .inr ⟨j, by omega, h2⟩
        · rintro (h | ⟨j, h1, h2, h3⟩)
          · exact .inl (.inl h)
          · by_cases hj : j = i
            · subst hj; exact .inl (.inr h3)
            · exact .inr ⟨j, by omega, h2, h3⟩
      have s2 : ((x6 || (decide (i < 8) && (tb ad i && tb bd i))) = true ∨ ∃ j : Nat, i + 1 ≤ j ∧ j < 8 ∧ tb ad j = true ∧ tb bd j = true) ↔ (x6 = true ∨ ∃ j : Nat, i ≤ j ∧ j < 8 ∧ tb ad j = true ∧ tb bd j = true) := by
        simp only [Bool.or_eq_true, Bool.and_eq_true, decide_eq_true_eq]
        constructor
        · rintro ((h | ⟨h0, h⟩) | ⟨j, h1, h2⟩)
          · exact .inl h
          · exact .inr ⟨i, Nat.le_refl _, h0, h⟩
          · exact .inr ⟨j, by omega, h2⟩
        · rintro (h | ⟨j, h1, h2, h3⟩)
          · exact .inl (.inl h)
          · by_cases hj : j = i
            · subst hj; exact .inl (.inr ⟨h2, h3⟩)
            · exact .inr ⟨j, by omega, h2, h3⟩
      rw [s1, s2]
theorem ref_SameDay_f (u0 : 0 ≤ aw ∧ aw < 4294967296) (u1 : 0 ≤ ad ∧ ad < 256) (v0 : 0 ≤ bw ∧ bw < 4294967296) (v1 : 0 ≤ bd ∧ bd < 256) :
    Ev (fun k => horariumref09_SameDay.f k aw ad ap al bw bd bp bl) (decide (SD aw ad ap al bw bd bp bl)) := by
  obtain ⟨r, hr, e⟩ := ref_SameDay_l0 (ap := ap) (al := al) (bp := bp) (bl := bl) u0 u1 v0 v1 _ 0 false false (by omega) rfl
  have hr' : r = decide (SD aw ad ap al bw bd bp bl) := by
    rw [Bool.eq_iff_iff, e, decide_eq_true_eq]
    unfold SD
    rw [AND_ne (m := 32) ⟨u0.1, by omega⟩, AND_ne (m := 8) ⟨u1.1, by omega⟩]
    simp
  rw [← hr']
  exact hr
theorem ref_slots_l0 (ha : TM ap al) (hb : TM bp bl) (d : Nat) : ∀ i : Nat, i ≤ 192 → 192 - i = d →
    ∃ r, Ev (fun k => horariumref09_slots.l0 k i aw ad ap al bw bd bp bl) r ∧ (r = true ↔ ∃ j : Nat, i ≤ j ∧ j < 192 ∧ ap ≤ j ∧ (j : Int) < ap + al ∧ bp ≤ j ∧ (j : Int) < bp + bl) := by
  unfold TM at ha hb
  have wa := Aside0.mk (w64 (n := ap + al) (by omega) (by omega))
  have wb := Aside0.mk (w64 (n := bp + bl) (by omega) (by omega))
  induction d with
  | zero =>
    intro i hi hd
    have hn : ¬ (i : Int) < 192 := by omega
    refine ⟨false, Ev.step (f := fun _ => some _) (fun k => ?_) (Ev.now _), ?_⟩
    · simp only [horariumref09_slots.l0]
      rw [if_neg hn]
    · simp only [Bool.false_eq_true, false_iff]
      rintro ⟨j, h1, h2, _⟩
      omega
  | succ d ih =>
    intro i hi hd
    have hp : (i : Int) < 192 := by omega
    by_cases h : ap ≤ i ∧ (i : Int) < ap + al ∧ bp ≤ i ∧ (i : Int) < bp + bl
    · refine ⟨true, Ev.step (f := fun _ => some _) (fun k => ?_) (Ev.now _), ?_⟩
      · simp only [horariumref09_slots.l0]
        rw [wa.out, wb.out, if_pos hp, if_pos h.1, if_pos h.2.1, if_pos h.2.2.1, if_pos h.2.2.2]
      · simp only [true_iff]
        exact ⟨i, Nat.le_refl _, by omega, h⟩
    · have hw := Aside0.mk (w64s (n := i) (by omega))
      obtain ⟨r, hr, e⟩ := ih (i + 1) (by omega) (by omega)
      refine ⟨r, Ev.step (fun k => ?_) hr, ?_⟩
      · simp only [horariumref09_slots.l0]
        rw [wa.out, wb.out, if_pos hp, hw.out]
        repeat' split
        all_goals first | rfl | omega
      · rw [e]
        constructor
        · rintro ⟨j, h1, h2⟩
          exact ⟨j, by omega, h2⟩
        · rintro ⟨j, h1, h2, h3⟩
          by_cases hj : j = i
          · subst hj; exact absurd h3 h
          · exact ⟨j, by omega, h2, h3⟩
theorem ref_slots_f (ha : TM ap al) (hb : TM bp bl) : Ev (fun k => horariumref09_slots.f k aw ad ap al bw bd bp bl) (decide (ap < bp + bl ∧ bp < ap + al)) := by
  obtain ⟨r, hr, e⟩ := ref_slots_l0 (aw := aw) (ad := ad) (bw := bw) (bd := bd) ha hb _ 0 (by omega) rfl
  have hr' : r = decide (ap < bp + bl ∧ bp < ap + al) := by
    rw [Bool.eq_iff_iff, e, decide_eq_true_eq]
    unfold TM at ha hb
    constructor
    · rintro ⟨j, _, _, h1, h2, h3, h4⟩
      omega
    · intro h
      exact ⟨(max ap bp).toNat, by omega, by omega, by omega, by omega, by omega, by omega⟩
  rw [← hr']
  exact hr
theorem ref_Meet_f (u0 : 0 ≤ aw ∧ aw < 4294967296) (u1 : 0 ≤ ad ∧ ad < 256) (v0 : 0 ≤ bw ∧ bw < 4294967296) (v1 : 0 ≤ bd ∧ bd < 256) :
    Ev (fun k => horariumref09_Meet.f k aw ad ap al bw bd bp bl) (decide (MT aw ad ap al bw bd bp bl)) := by
  unfold horariumref09_Meet.f
  refine Ev.bind (ref_SameDay_f u0 u1 v0 v1) ?_
  by_cases h : SD aw ad ap al bw bd bp bl
  · simp only [decide_eq_true_eq, if_pos h]
    refine Ev.bind (ref_slots_f h.1 h.2.1) ?_
    have : decide (MT aw ad ap al bw bd bp bl) = decide (ap < bp + bl ∧ bp < ap + al) := by unfold MT; simp [h]
    rw [this]
    exact Ev.now _
  · simp only [decide_eq_true_eq, if_neg h]
    have : decide (MT aw ad ap al bw bd bp bl) = false := decide_eq_false (fun h2 => h h2.1)
    rw [this]
    exact Ev.now _
end
end Go.Proofs.Ytddheiloodfkdaa.W3
