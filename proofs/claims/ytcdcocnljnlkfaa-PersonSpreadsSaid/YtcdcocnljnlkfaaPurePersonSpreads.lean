/- The law PersonSpreads, over numbers alone. -/
import Derived.Test.YtcdcocnljnlkfaaQ32
import Derived.Test.YtcdcocnljnlkfaaP2
set_option linter.unusedVariables false
set_option linter.unusedSimpArgs false
namespace Go.Proofs.Ytcdcocnljnlkfaa.Pure
open Go.RowKit Go.Proofs.YtcdcocnljnlkfaaW.PrintWords Go.Proofs.YtcdcocnljnlkfaaW.PrintLast Go.Proofs.YtcdcocnljnlkfaaW.PrintMore Go.Proofs.Ytcdcocnljnlkfaa.M Go.Proofs.Ytcdcocnljnlkfaa.Q Go.Proofs.Ytcdcocnljnlkfaa.L1 Go.Proofs.Ytcdcocnljnlkfaa.L2 Go.Proofs.Ytcdcocnljnlkfaa.P1 Go.Proofs.Ytcdcocnljnlkfaa.P2 Go.Proofs.Ytcdcocnljnlkfaa.W1 Go.Proofs.Ytcdcocnljnlkfaa.W2 Go.Proofs.Ytcdcocnljnlkfaa.W4
theorem heads_ev : Ev (fun k => horariumlaw12_heads.f k) true := Ev.of (fun k => horariumlaw12_heads.mono k) (k := 60) (by decide +kernel)
theorem GV_of {l : List S27} (h : ∀ x ∈ l, ((Lit.int .u32 x.f0).wf = true ∧ (Lit.int .u8 x.f1).wf = true ∧ (Lit.int .i64 x.f2).wf = true ∧ (Lit.int .i64 x.f3).wf = true)) : GV l :=
  fun x hx => ⟨wf_u32 (h x hx).1, wf_u8 (h x hx).2.1, wf_i64 (h x hx).2.2.2⟩
theorem spr {A B C D : List Int} (hA : A.length < 1000000) (hB : B.length = A.length) (hC : C.length = A.length) (hD : D.length = A.length)
    (h : ∀ i : Nat, i < A.length → rd A i ≤ rd B i ∧ rd C i ≤ rd D i ∧ rd A i ≤ rd C i ∧ rd B i ≤ rd D i ∧ (rd A i = 0 ↔ rd B i = 0)) : Ev (fun k => horariumlaw12_PersonSpreads.l0 k A B C D 0) true := by
  refine (loop_all (L := fun k i => horariumlaw12_PersonSpreads.l0 k A B C D i) (n := A.length) (P := fun _ => True) (re := true) (rb := true) ?_ ?_ ?_).1 fun _ _ => trivial
  · intro i hi _ r hr
    obtain ⟨h1, h2, h3, h4, h5⟩ := h i hi
    have h6 : ((rd A i == 0) != (rd B i == 0)) = false := by
      rw [bne_eq_false_iff_eq]
      refine Bool.eq_iff_iff.mpr ?_
      rw [beq_iff_eq, beq_iff_eq]
      exact h5
    refine Ev.step (fun k => ?_) hr
    simp only [horariumlaw12_PersonSpreads.l0, h6]
    rw [if_pos (by omega), if_pos (by omega), if_pos (by omega), if_neg (by omega), if_pos (by omega), if_pos (by omega), if_neg (by omega), if_neg (by omega), if_neg (by omega), if_neg (by decide), w64s (by omega)]
  · exact fun i hi h => absurd trivial h
  · intro _
    refine Ev.step (fun k => ?_) (Ev.bind heads_ev (Ev.now true))
    simp only [horariumlaw12_PersonSpreads.l0]
    rw [if_neg (by omega)]
theorem rd_map {f : Nat → Int} {n i : Nat} (h : i < n) : rd ((List.range n).map f) (i : Int) = f i := by
  rw [rd_nat, List.getD_eq_getElem?_getD, List.getElem?_map, List.getElem?_range h]
  rfl
theorem HIT_more {l : List S27} {x : S27} {g0 g1 g2 : Int} {m : Nat} (h : HIT l g0 g1 g2 m = true) : HIT (l ++ [x]) g0 g1 g2 m = true := by
  unfold HIT at h ⊢
  rw [List.any_append, h, Bool.true_or]
theorem PersonSpreads : ∀ (a0_0 : Int) (a0_1 : Int) (a0_2 : Int) (l1 : List (S27)) (a2_0 : Int) (a2_1 : Int) (a2_2 : Int) (a2_3 : Int), (Lit.int .i64 a0_0).wf = true → (Lit.int .i64 a0_1).wf = true → (Lit.int .i64 a0_2).wf = true → (∀ x ∈ l1, ((Lit.int .u32 x.f0).wf = true ∧ (Lit.int .u8 x.f1).wf = true ∧ (Lit.int .i64 x.f2).wf = true ∧ (Lit.int .i64 x.f3).wf = true)) → (Lit.int .u32 a2_0).wf = true → (Lit.int .u8 a2_1).wf = true → (Lit.int .i64 a2_2).wf = true → (Lit.int .i64 a2_3).wf = true → ∃ k, horariumlaw12_PersonSpreads.f k a0_0 a0_1 a0_2 l1 a2_0 a2_1 a2_2 a2_3 = some true := by
  intro g0 g1 g2 l w0 w1 w2 w3 _ _ _ hl v0 v1 _ v3
  replace hl := GV_of hl
  replace v0 := wf_u32 v0
  replace v1 := wf_u8 v1
  replace v3 := wf_i64 v3
  refine Ev.rounds ?_
  unfold horariumlaw12_PersonSpreads.f horariumlaw12_few.f
  simp only [Option.bind_some, decide_eq_true_eq]
  by_cases h30 : (l.length : Int) ≤ 30
  · have hl2 : GV (l ++ [(⟨w0, w1, w2, w3⟩ : S27)]) := by
      intro x hx
      rcases List.mem_append.mp hx with h | h
      · exact hl x h
      · rw [List.mem_singleton] at h
        subst h
        exact ⟨v0, v1, v3⟩
    have hm : l.length < 1000000 := by omega
    have hm2 : (l ++ [(⟨w0, w1, w2, w3⟩ : S27)]).length < 1000000 := by simp; omega
    simp only [if_pos h30, List.nil_append, List.length_nil, List.length_singleton]
    simp only [if_pos (show 0 + l.length < 5864062014805 by omega), if_pos (show l.length + 1 < 5864062014805 by omega)]
    refine Ev.bind (Busy_f hm hl) (Ev.bind (Spread_f hm hl) (Ev.bind (Busy_f hm2 hl2) (Ev.bind (Spread_f hm2 hl2) ?_)))
    by_cases hg : RG g0 g1 g2
    · obtain ⟨b1, b2⟩ := RG_nat hg
      unfold BUSY SPREAD
      simp only [if_pos hg, List.length_map, List.length_range, if_true]
      refine spr (by simp; omega) (by simp) (by simp) (by simp) fun i hi => ?_
      rw [List.length_map, List.length_range] at hi
      rw [rd_map hi, rd_map hi, rd_map hi, rd_map hi]
      have c1 := CN_SP (fun s => HIT l g0 g1 g2 (i * g2.toNat + s)) g2.toNat
      have c2 := CN_SP (fun s => HIT (l ++ [(⟨w0, w1, w2, w3⟩ : S27)]) g0 g1 g2 (i * g2.toNat + s)) g2.toNat
      have c3 := CN_mono (r := fun s => HIT l g0 g1 g2 (i * g2.toNat + s)) (q := fun s => HIT (l ++ [(⟨w0, w1, w2, w3⟩ : S27)]) g0 g1 g2 (i * g2.toNat + s)) (fun s h => HIT_more h) g2.toNat
      have c4 := SP_mono (r := fun s => HIT l g0 g1 g2 (i * g2.toNat + s)) (q := fun s => HIT (l ++ [(⟨w0, w1, w2, w3⟩ : S27)]) g0 g1 g2 (i * g2.toNat + s)) (fun s h => HIT_more h) g2.toNat
      refine ⟨c1.1, c2.1, by exact_mod_cast c3, c4, ?_⟩
      rw [← c1.2]
      omega
    · unfold BUSY SPREAD
      simp only [if_neg hg, List.length_nil, if_true]
      exact spr (by simp) rfl rfl rfl fun i hi => by simp at hi
  · simp only [if_neg h30]
    exact Ev.bind heads_ev (Ev.now _)
end Go.Proofs.Ytcdcocnljnlkfaa.Pure
