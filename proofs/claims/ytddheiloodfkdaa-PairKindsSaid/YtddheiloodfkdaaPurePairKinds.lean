/- The law PairKinds, over numbers alone. -/
import Derived.Test.YtddheiloodfkdaaQ17
import Derived.Test.YtddheiloodfkdaaK1
import Derived.Test.YtddheiloodfkdaaL1
set_option linter.unusedVariables false
set_option linter.unusedSimpArgs false
namespace Go.Proofs.Ytddheiloodfkdaa.Pure
open Go.RowKit Go.Proofs.YtddheiloodfkdaaW.PrintWords Go.Proofs.YtddheiloodfkdaaW.PrintLast Go.Proofs.YtddheiloodfkdaaW.PrintMore Go.Proofs.Ytddheiloodfkdaa.M Go.Proofs.Ytddheiloodfkdaa.Q Go.Proofs.Ytddheiloodfkdaa.K1 Go.Proofs.Ytddheiloodfkdaa.L1
theorem heads_ev : Ev (fun k => horariumlaw15_heads.f k) true := Ev.of (fun k => horariumlaw15_heads.mono k) (k := 60) (by decide +kernel)
theorem ref_Known_f (k : Int) : horariumref15_Known.f k = some (decide (KN k)) := by
  unfold horariumref15_Known.f
  by_cases h : k ≥ 1
  · rw [if_pos h]; exact congrArg some (decide_eq_decide.mpr (by unfold KN; omega))
  · rw [if_neg h, decide_eq_false (show ¬ KN k by unfold KN; omega)]
theorem ref_rooms_f (k : Int) : horariumref15_rooms.f k = some (decide (k = 10 ∨ k = 11)) := by
  unfold horariumref15_rooms.f
  by_cases h : k = 10
  · rw [if_pos h, decide_eq_true (Or.inl h)]
  · rw [if_neg h]
    by_cases h2 : k = 11
    · rw [decide_eq_true (Or.inr h2), h2]; rfl
    · rw [decide_eq_false (fun h3 => h3.elim h h2)]; exact congrArg some (beq_eq_false_iff_ne.mpr h2)
theorem ref_Needs_f (kd : Int) : horariumref15_Needs.f kd = some (decide (KN kd ∧ kd ≠ 10 ∧ kd ≠ 11), decide (kd = 10 ∨ kd = 11 ∨ kd = 14)) := by
  unfold horariumref15_Needs.f
  simp only [ref_Known_f, ref_rooms_f, Option.bind_some, ite_dec]
  by_cases hk : KN kd
  · simp only [if_pos hk]
    by_cases cr : kd = 10 ∨ kd = 11
    · simp only [if_pos cr, decide_eq_true cr]
      rw [decide_eq_false (show ¬ (KN kd ∧ kd ≠ 10 ∧ kd ≠ 11) by omega), decide_eq_true (show kd = 10 ∨ kd = 11 ∨ kd = 14 by omega)]
      rfl
    · simp only [if_neg cr, decide_eq_false cr]
      rw [decide_eq_true (show (KN kd ∧ kd ≠ 10 ∧ kd ≠ 11) from ⟨hk, by omega⟩), show decide (kd = 10 ∨ kd = 11 ∨ kd = 14) = (kd == 14) from decide_eq_decide.mpr (by omega)]
      rfl
  · simp only [if_neg hk]
    rw [decide_eq_false (show ¬ (KN kd ∧ kd ≠ 10 ∧ kd ≠ 11) from fun h => hk h.1), decide_eq_false (show ¬ (kd = 10 ∨ kd = 11 ∨ kd = 14) by unfold KN at hk; omega)]
theorem Name_eq (kd : Int) : pair_Name.f kd = horariumref15_Name.f kd := by
  unfold pair_Name.f horariumref15_Name.f pair_names.f
  simp only [Known_f, ref_Known_f, Option.bind_some]
theorem Name_ex (kd : Int) : ∃ s, pair_Name.f kd = some s := by
  unfold pair_Name.f pair_names.f
  simp only [Known_f, Option.bind_some, ite_dec]
  by_cases hk : KN kd
  · simp only [if_pos hk]
    unfold KN at hk
    rw [w64 (n := kd - 1) (by omega) (by omega), if_pos (by omega), if_pos (by simp only [List.length_cons, List.length_nil]; omega)]
    exact ⟨_, rfl⟩
  · simp only [if_neg hk]
    by_cases h1 : kd ≥ 21
    · rw [if_pos h1]
      by_cases h2 : kd ≤ 24
      · rw [if_pos h2, w64 (n := kd - 21) (by omega) (by omega), if_pos (by omega), if_pos (by simp only [List.length_cons, List.length_nil]; omega)]
        exact ⟨_, rfl⟩
      · rw [if_neg h2]; exact ⟨_, rfl⟩
    · rw [if_neg h1]; exact ⟨_, rfl⟩
def P1 : List ByteArray := (pair_names.f.getD ([], [])).1
def P2 : List ByteArray := (pair_names.f.getD ([], [])).2
theorem names_f : pair_names.f = some (P1, P2) := rfl
theorem P1_len : P1.length = 14 := by decide +kernel
theorem P2_len : P2.length = 4 := by decide +kernel
theorem F1 : ∀ i : Fin 14, horariumref15_Name.f ((i.val : Int) + 1) = some (rdOf ByteArray.empty P1 (i.val : Int)) ∧ ¬ (rdOf ByteArray.empty P1 (i.val : Int)).toList = [] := by decide +kernel
theorem F2 : ∀ i : Fin 6, horariumref15_Name.f ((i.val : Int) + 15) = some ⟨#[]⟩ := by decide +kernel
theorem F3 : ∀ i : Fin 4, horariumref15_Name.f ((i.val : Int) + 21) = some (rdOf ByteArray.empty P2 (i.val : Int)) ∧ ¬ (rdOf ByteArray.empty P2 (i.val : Int)).toList = [] := by decide +kernel
theorem nil_list : (⟨#[]⟩ : ByteArray).toList = [] := by decide +kernel
section
variable {s : ByteArray}
/-- The name of this number is the text. -/
def PR (s : ByteArray) (i : Nat) : Prop := ¬ s.toList = [] ∧ ∃ nm, horariumref15_Name.f ((i : Int) + 1) = some nm ∧ nm.toList = s.toList
theorem PR1 {i : Nat} (h : i < 14) : PR s i ↔ (rdOf ByteArray.empty P1 (i : Int)).toList = s.toList := by
  have hf := F1 ⟨i, h⟩
  unfold PR
  constructor
  · rintro ⟨_, nm, h1, h2⟩
    rw [hf.1] at h1
    obtain rfl := Option.some.inj h1
    exact h2
  · intro h2
    exact ⟨fun h3 => hf.2 (h2.trans h3), _, hf.1, h2⟩
theorem PR2 {i : Nat} (h : 14 ≤ i) (h2 : i < 20) : ¬ PR s i := by
  have hf := F2 ⟨i - 14, by omega⟩
  have e : (((i - 14 : Nat) : Int) + 15) = (i : Int) + 1 := by omega
  rw [e] at hf
  rintro ⟨h0, nm, h1, h2⟩
  rw [hf] at h1
  obtain rfl := Option.some.inj h1
  exact h0 (h2.symm.trans nil_list)
theorem PR3 {i : Nat} (h : i < 4) : PR s (i + 20) ↔ (rdOf ByteArray.empty P2 (i : Int)).toList = s.toList := by
  have hf := F3 ⟨i, h⟩
  have e : ((i : Int) + 21) = ((i + 20 : Nat) : Int) + 1 := by omega
  rw [e] at hf
  unfold PR
  constructor
  · rintro ⟨_, nm, h1, h2⟩
    rw [hf.1] at h1
    obtain rfl := Option.some.inj h1
    exact h2
  · intro h2
    exact ⟨fun h3 => hf.2 (h2.trans h3), _, hf.1, h2⟩
theorem l1_ev : ((∀ i : Nat, i < 4 → ¬ (rdOf ByteArray.empty P2 (i : Int)).toList = s.toList) → Ev (fun k => pair_Kind.l1 k s P2 (P2.length : Int) 0) (0, false)) ∧
    (∀ m : Nat, m < 4 → (rdOf ByteArray.empty P2 (m : Int)).toList = s.toList → (∀ i : Nat, i < m → ¬ (rdOf ByteArray.empty P2 (i : Int)).toList = s.toList) → Ev (fun k => pair_Kind.l1 k s P2 (P2.length : Int) 0) ((m : Int) + 21, true)) := by
  have hl := P2_len
  refine loop_first (L := fun k i => pair_Kind.l1 k s P2 (P2.length : Int) i) (P := fun i => (rdOf ByteArray.empty P2 (i : Int)).toList = s.toList) (rb := fun m => ((m : Int) + 21, true)) ?_ ?_ ?_
  · intro i hi hp r h
    refine Ev.step (fun k => ?_) h
    simp only [pair_Kind.l1]
    rw [if_pos (by omega), if_pos (by omega), if_pos (by omega), if_neg hp, w64s (by omega)]
  · intro i hi hp
    refine Ev.step (fun k => ?_) (Ev.now _)
    simp only [pair_Kind.l1]
    rw [if_pos (by omega), if_pos (by omega), if_pos (by omega), if_pos hp, w64 (n := 21 + (i : Int)) (by omega) (by omega), Int.add_comm]
  · refine Ev.step (fun k => ?_) (Ev.now _)
    simp only [pair_Kind.l1]
    rw [if_neg (by omega)]
theorem l0_ev {r : Int × Bool} (hr : Ev (fun k => pair_Kind.l1 k s P2 (P2.length : Int) 0) r) : ((∀ i : Nat, i < 14 → ¬ (rdOf ByteArray.empty P1 (i : Int)).toList = s.toList) → Ev (fun k => pair_Kind.l0 k s P2 P1 (P1.length : Int) 0) r) ∧
    (∀ m : Nat, m < 14 → (rdOf ByteArray.empty P1 (m : Int)).toList = s.toList → (∀ i : Nat, i < m → ¬ (rdOf ByteArray.empty P1 (i : Int)).toList = s.toList) → Ev (fun k => pair_Kind.l0 k s P2 P1 (P1.length : Int) 0) ((m : Int) + 1, true)) := by
  have hl := P1_len
  refine loop_first (L := fun k i => pair_Kind.l0 k s P2 P1 (P1.length : Int) i) (P := fun i => (rdOf ByteArray.empty P1 (i : Int)).toList = s.toList) (rb := fun m => ((m : Int) + 1, true)) ?_ ?_ ?_
  · intro i hi hp r h
    refine Ev.step (fun k => ?_) h
    simp only [pair_Kind.l0]
    rw [if_pos (by omega), if_pos (by omega), if_pos (by omega), if_neg hp, w64s (by omega)]
  · intro i hi hp
    refine Ev.step (fun k => ?_) (Ev.now _)
    simp only [pair_Kind.l0]
    rw [if_pos (by omega), if_pos (by omega), if_pos (by omega), if_pos hp, w64 (n := 1 + (i : Int)) (by omega) (by omega), Int.add_comm]
  · refine Ev.step (fun k => ?_) hr
    simp only [pair_Kind.l0]
    rw [if_neg (by omega)]
theorem ref_Kind_ev : ((∀ i : Nat, i < 24 → ¬ PR s i) → Ev (fun k => horariumref15_Kind.f k s) (0, false)) ∧
    (∀ m : Nat, m < 24 → PR s m → (∀ i : Nat, i < m → ¬ PR s i) → Ev (fun k => horariumref15_Kind.f k s) ((m : Int) + 1, true)) := by
  refine loop_first (L := fun k i => horariumref15_Kind.l0 k s (i + 1)) (P := PR s) (rb := fun m => ((m : Int) + 1, true)) ?_ ?_ ?_
  · intro i hi hp r h
    refine Ev.step (fun k => ?_) h
    simp only [horariumref15_Kind.l0]
    rw [if_pos (by omega)]
    have hw : wrap64 ((i : Int) + 1 + 1) = ((i + 1 : Nat) : Int) + 1 := by rw [w64 (by omega) (by omega)]; omega
    by_cases hs : s.toList = []
    · rw [if_pos hs, hw]
    · rw [if_neg hs]
      obtain ⟨nm, hn⟩ := Name_ex ((i : Int) + 1)
      rw [Name_eq] at hn
      rw [hn, Option.bind_some, if_neg (fun h2 => hp ⟨hs, nm, hn, h2⟩), hw]
  · intro i hi hp
    obtain ⟨hs, nm, h1, h2⟩ := hp
    refine Ev.step (fun k => ?_) (Ev.now _)
    simp only [horariumref15_Kind.l0]
    rw [if_pos (by omega), if_neg hs, h1, Option.bind_some, if_pos h2]
  · refine Ev.step (fun k => ?_) (Ev.now _)
    simp only [horariumref15_Kind.l0]
    rw [if_neg (by omega)]
theorem Kind_both : ∃ r, Ev (fun k => pair_Kind.f k s) r ∧ Ev (fun k => horariumref15_Kind.f k s) r := by
  have e : ∀ k, pair_Kind.f k s = pair_Kind.l0 k s P2 P1 (P1.length : Int) 0 := fun k => by unfold pair_Kind.f; rw [names_f, Option.bind_some]
  have hq := ref_Kind_ev (s := s)
  have h1 := l1_ev (s := s)
  rcases first_or 24 (PR s) with h | ⟨m, h2, h3, h4⟩
  · exact ⟨_, Ev.congr e ((l0_ev (h1.1 fun i hi hc => h _ (by omega) ((PR3 hi).mpr hc))).1 fun i hi hc => h i (by omega) ((PR1 hi).mpr hc)), hq.1 h⟩
  · by_cases c1 : m < 14
    · by_cases hr : ∃ r, Ev (fun k => pair_Kind.l1 k s P2 (P2.length : Int) 0) r
      · obtain ⟨r, hr⟩ := hr
        exact ⟨_, Ev.congr e ((l0_ev hr).2 m c1 ((PR1 c1).mp h3) fun i hi hc => h4 i hi ((PR1 (by omega)).mpr hc)), hq.2 m h2 h3 h4⟩
      · refine absurd ?_ hr
        rcases first_or 4 (fun i => (rdOf ByteArray.empty P2 (i : Int)).toList = s.toList) with g | ⟨q, g1, g2, g3⟩
        · exact ⟨_, h1.1 g⟩
        · exact ⟨_, h1.2 q g1 g2 g3⟩
    · by_cases c2 : m < 20
      · exact absurd h3 (PR2 (by omega) c2)
      · obtain ⟨q, rfl⟩ : ∃ q, m = q + 20 := ⟨m - 20, by omega⟩
        have hr := h1.2 q (by omega) ((PR3 (by omega)).mp h3) fun i hi hc => h4 _ (by omega) ((PR3 (by omega)).mpr hc)
        have ee : ((q : Int) + 21, true) = (((q + 20 : Nat) : Int) + 1, true) := by rw [show (q : Int) + 21 = ((q + 20 : Nat) : Int) + 1 by omega]
        rw [ee] at hr
        exact ⟨_, Ev.congr e ((l0_ev hr).1 fun i hi hc => h4 i (by omega) ((PR1 hi).mpr hc)), hq.2 _ h2 h3 h4⟩
end
theorem PairKinds : ∀ (a0 : Int) (a1 : ByteArray), (Lit.int .i64 a0).wf = true → a1.size ≤ maxLen → ∃ k, horariumlaw15_PairKinds.f k a0 a1 = some true := by
  intro kd s _ _
  refine Ev.rounds ?_
  obtain ⟨r, k1, k2⟩ := Kind_both (s := s)
  obtain ⟨nm, hn⟩ := Name_ex kd
  have hn' := hn
  rw [Name_eq] at hn'
  unfold horariumlaw15_PairKinds.f pair_Turns.f
  simp only [ref_Needs_f, Known_f, ref_Known_f, hn, hn', Option.bind_some, ite_dec]
  refine Ev.bind (Needs_ev kd) (Ev.bind k1 (Ev.bind k2 ?_))
  simp only [beq_self_eq_true, if_true]
  by_cases hk : KN kd
  · simp only [if_pos hk, Option.bind_some, beq_self_eq_true, if_true]
    exact Ev.bind heads_ev (Ev.now _)
  · simp only [if_neg hk, Option.bind_some, beq_self_eq_true, if_true]
    exact Ev.bind heads_ev (Ev.now _)
end Go.Proofs.Ytddheiloodfkdaa.Pure
