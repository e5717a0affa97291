/- The law PairNever, over numbers alone. -/
import Derived.Test.YtddheiloodfkdaaENeverD
import Derived.Test.YtddheiloodfkdaaK5
import Derived.Test.YtddheiloodfkdaaL1
set_option linter.unusedVariables false
set_option linter.unusedSimpArgs false
namespace Go.Proofs.Ytddheiloodfkdaa.Pure
open Go.RowKit Go.Proofs.YtddheiloodfkdaaW.PrintWords Go.Proofs.YtddheiloodfkdaaW.PrintLast Go.Proofs.YtddheiloodfkdaaW.PrintMore Go.Proofs.Ytddheiloodfkdaa.M Go.Proofs.Ytddheiloodfkdaa.Q Go.Proofs.Ytddheiloodfkdaa.W1 Go.Proofs.Ytddheiloodfkdaa.W3 Go.Proofs.Ytddheiloodfkdaa.K1 Go.Proofs.Ytddheiloodfkdaa.K2 Go.Proofs.Ytddheiloodfkdaa.R1 Go.Proofs.Ytddheiloodfkdaa.K3 Go.Proofs.Ytddheiloodfkdaa.K4 Go.Proofs.Ytddheiloodfkdaa.K5 Go.Proofs.Ytddheiloodfkdaa.L1
theorem heads_ev : Ev (fun k => horariumlaw15_heads.f k) true := Ev.of (fun k => horariumlaw15_heads.mono k) (k := 60) (by decide +kernel)
section
variable {g0 g1 g2 kd n aw ad ap al ar bw bd bp bl br wl : Int} {uw ud up ul ur vw vd vp vl vr far : Int}
/-- A time, or the time that is not known. -/
def WH (uw ud up ul aw ad ap al : Int) : Prop := (uw = aw ∧ ud = ad ∧ up = ap ∧ ul = al) ∨ (uw = 0 ∧ ud = 0 ∧ up = 0 ∧ ul = 0)
/-- A room, or, of one that is known, the room that is not. -/
def RM (ur ar : Int) : Prop := ur = ar ∨ (ar ≥ 0 ∧ ur = -2)
theorem HB_rooms (h0 : kd ≠ 10) (h1 : kd ≠ 11) : HB g0 g1 g2 kd n aw ad ap al ur bw bd bp bl vr wl = HB g0 g1 g2 kd n aw ad ap al ar bw bd bp bl br wl := by
  unfold HB
  rw [if_neg h1, if_neg h0, if_neg h1, if_neg h0]
theorem TI_walk (hk : KN kd) (h0 : kd ≠ 10) (h1 : kd ≠ 11) (h2 : kd ≠ 14) : TI g1 g2 kd n aw ad ap al bw bd bp bl far = TI g1 g2 kd n aw ad ap al bw bd bp bl wl := by
  unfold TI
  by_cases c9 : kd = 9
  · rw [if_pos c9, if_pos c9]
  rw [if_neg c9, if_neg c9]
  by_cases c8 : kd = 8
  · rw [if_pos c8, if_pos c8]
  rw [if_neg c8, if_neg c8]
  by_cases c1 : kd = 1
  · rw [if_pos c1, if_pos c1]
  rw [if_neg c1, if_neg c1]
  by_cases c2 : kd = 2
  · rw [if_pos c2, if_pos c2]
  rw [if_neg c2, if_neg c2]
  by_cases c3 : kd = 3
  · rw [if_pos c3, if_pos c3]
  rw [if_neg c3, if_neg c3]
  by_cases c4 : kd = 4
  · rw [if_pos c4, if_pos c4]
  rw [if_neg c4, if_neg c4]
  by_cases c5 : kd = 5
  · rw [if_pos c5, if_pos c5]
  rw [if_neg c5, if_neg c5]
  by_cases c6 : kd = 6
  · rw [if_pos c6, if_pos c6]
  rw [if_neg c6, if_neg c6]
  by_cases c7 : kd = 7
  · rw [if_pos c7, if_pos c7]
  rw [if_neg c7, if_neg c7]
  by_cases c12 : kd = 12
  · rw [if_pos c12, if_pos c12]
  rw [if_neg c12, if_neg c12]
  by_cases c13 : kd = 13
  · rw [if_pos c13, if_pos c13]
  rw [if_neg c13, if_neg c13]
  unfold KN at hk
  omega
theorem HB_walk (h0 : kd ≠ 10) (h1 : kd ≠ 11) (h2 : kd ≠ 14) : HB g0 g1 g2 kd n aw ad ap al ar bw bd bp bl br far = HB g0 g1 g2 kd n aw ad ap al ar bw bd bp bl br wl := by
  unfold HB
  rw [if_neg h1, if_neg h0, if_neg h1, if_neg h0]
  by_cases hk : KN kd
  · rw [TI_walk hk h0 h1 h2]
  · rw [decide_eq_false hk]; rfl
theorem HB_less (hw : 0 ≤ wl) (h : HB g0 g1 g2 14 n aw ad ap al ar bw bd bp bl br wl = true) : HB g0 g1 g2 14 n aw ad ap al ar bw bd bp bl br 0 = true := by
  have hk : KN 14 := by unfold KN; omega
  have e : ∀ w, TI g1 g2 14 n aw ad ap al bw bd bp bl w = decide (RCH aw ad ap al bw bd bp bl w) := by
    intro w
    unfold TI
    simp only [Int.reduceEq, if_false]
  by_cases hr : RT g0 g1 g2 aw ad ap al ∧ RT g0 g1 g2 bw bd bp bl
  · rw [HB_time hk (by omega) (by omega) hr.1 hr.2, e, decide_eq_true_eq] at h ⊢
    refine ⟨h.1, fun hs => ?_⟩
    have := h.2 hs
    omega
  · rw [HB_out (by omega) (by omega) fun h2 => hr h2.2] at h
    cases h
/-- What can't hold any more can't, whatever becomes known. -/
theorem NV_known (hx : aw ≠ 0) (hy : bw ≠ 0) (hu : WH uw ud up ul aw ad ap al) (hv : WH vw vd vp vl bw bd bp bl) (hr : RM ur ar) (hq : RM vr br) (ha : ar ≠ -2) (hb : br ≠ -2)
    (hf : far = if ur < 0 ∨ vr < 0 then 0 else wl)
    (h : NV kd uw ur vw vr (HB g0 g1 g2 kd n uw ud up ul ur vw vd vp vl vr far) (HB g0 g1 g2 kd n uw ud up ul ur vw vd vp vl vr 0) = true) :
    NV kd aw ar bw br (HB g0 g1 g2 kd n aw ad ap al ar bw bd bp bl br wl) (HB g0 g1 g2 kd n aw ad ap al ar bw bd bp bl br 0) = true := by
  have hp : decide (ar ≠ -2 ∧ br ≠ -2) = true := decide_eq_true ⟨ha, hb⟩
  have ht : decide (aw ≠ 0 ∧ bw ≠ 0) = true := decide_eq_true ⟨hx, hy⟩
  by_cases c14 : kd = 14
  · subst c14
    unfold NV at h ⊢
    rw [if_pos rfl, Bool.and_eq_true, decide_eq_true_eq] at h
    obtain ⟨hn, h⟩ := h
    rcases hu with ⟨rfl, rfl, rfl, rfl⟩ | hu
    · rcases hv with ⟨rfl, rfl, rfl, rfl⟩ | hv
      · rw [if_pos rfl, ht, hp]
        have hR : ∀ f, HB g0 g1 g2 14 n uw ud up ul ur vw vd vp vl vr f = HB g0 g1 g2 14 n uw ud up ul ar vw vd vp vl br f := fun f => HB_rooms (by omega) (by omega)
        rw [hR far, hR 0] at h
        cases h0 : HB g0 g1 g2 14 n uw ud up ul ar vw vd vp vl br 0 with
        | false => simp
        | true =>
          rw [h0] at h
          simp only [Bool.not_true, Bool.false_or, Bool.and_eq_true, decide_eq_true_eq] at h
          obtain ⟨h1, h2⟩ := h
          have e1 : ur = ar := by rcases hr with e | e <;> omega
          have e2 : vr = br := by rcases hq with e | e <;> omega
          by_cases hc : ur < 0 ∨ vr < 0
          · rw [if_pos hc] at hf
            rw [hf, h0] at h1
            cases h1
          · rw [if_neg hc] at hf
            rw [hf] at h1
            rw [Bool.true_and, h1]
            rfl
      · exact absurd hv.1 hn.2
    · exact absurd hu.1 hn.1
  · by_cases cr : kd = 10 ∨ kd = 11
    · unfold NV at h ⊢
      rw [if_neg c14, if_pos cr, Bool.and_eq_true] at h
      rw [if_neg c14, if_pos cr, hp]
      obtain ⟨h1, h2⟩ := h
      rw [Bool.true_or, Bool.true_and]
      rw [Bool.or_eq_true, Bool.and_eq_true, decide_eq_true_eq, decide_eq_true_eq, decide_eq_true_eq] at h1
      have key : ONE ur vr ↔ ONE ar br := by
        unfold ONE
        unfold RM at hr hq
        omega
      have hone : decide (ONE ur vr) = decide (ONE ar br) := decide_eq_decide.mpr key
      have hbb : HB g0 g1 g2 kd n uw ud up ul ur vw vd vp vl vr far = HB g0 g1 g2 kd n aw ad ap al ar bw bd bp bl br wl := by
        unfold HB
        rcases cr with rfl | rfl
        · simp only [Int.reduceEq, if_false, if_true, hone]
        · simp only [if_true, hone]
      rw [hbb] at h2
      exact h2
    · unfold NV at h ⊢
      rw [if_neg c14, if_neg cr, Bool.and_eq_true, Bool.and_eq_true, decide_eq_true_eq, decide_eq_true_eq] at h
      rw [if_neg c14, if_neg cr, ht, decide_eq_true h.1, Bool.true_and, Bool.true_and]
      obtain ⟨hk, hn, h⟩ := h
      rcases hu with ⟨rfl, rfl, rfl, rfl⟩ | hu
      · rcases hv with ⟨rfl, rfl, rfl, rfl⟩ | hv
        · rw [HB_rooms (ar := ar) (br := br) (by omega) (by omega), HB_walk (wl := wl) (by omega) (by omega) c14] at h
          exact h
        · exact absurd hv.1 hn.2
      · exact absurd hu.1 hn.1
theorem range32 (h : WH uw ud up ul aw ad ap al) (h0 : 0 ≤ aw ∧ aw < 4294967296) : 0 ≤ uw ∧ uw < 4294967296 := by unfold WH at h; omega
theorem range8 (h : WH uw ud up ul aw ad ap al) (h0 : 0 ≤ ad ∧ ad < 256) : 0 ≤ ud ∧ ud < 256 := by unfold WH at h; omega
end
section
variable {g0 g1 g2 kd n aw ad ap al ar bw bd bp bl br wl : Int} {uw ud up ul ur vw vd vp vl vr far : Int} {i : Nat}
theorem j7_ev (u0 : 0 ≤ aw ∧ aw < 4294967296) (u1 : 0 ≤ ad ∧ ad < 256) (v0 : 0 ≤ bw ∧ bw < 4294967296) (v1 : 0 ≤ bd ∧ bd < 256) (hx : aw ≠ 0) (hy : bw ≠ 0) (hi : i < 16)
    (hl : Ev (fun k => horariumlaw15_PairNever.l0 k kd n wl ((i + 1 : Nat) : Int) g0 g1 g2 aw ad ap al ar bw bd bp bl br) true)
    (hu : WH uw ud up ul aw ad ap al) (hv : WH vw vd vp vl bw bd bp bl) (hr : RM ur ar) (hq : RM vr br) :
    Ev (fun k => horariumlaw15_PairNever.j7 k kd n wl (i : Int) g0 g1 g2 aw ad ap al ar bw bd bp bl br uw ud up ul ur vw vd vp vl vr) true := by
  have e : ∀ k, (if ur < 0 then horariumlaw15_PairNever.j8 k kd n wl (i : Int) wl true g0 g1 g2 aw ad ap al ar bw bd bp bl br uw ud up ul ur vw vd vp vl vr else horariumlaw15_PairNever.j8 k kd n wl (i : Int) wl (decide (vr < 0)) g0 g1 g2 aw ad ap al ar bw bd bp bl br uw ud up ul ur vw vd vp vl vr) = horariumlaw15_PairNever.j8 k kd n wl (i : Int) wl (decide (ur < 0 ∨ vr < 0)) g0 g1 g2 aw ad ap al ar bw bd bp bl br uw ud up ul ur vw vd vp vl vr := by
    intro k
    by_cases h : ur < 0
    · rw [if_pos h, decide_eq_true (show ur < 0 ∨ vr < 0 from Or.inl h)]
    · rw [if_neg h, decide_eq_decide.mpr (show (ur < 0 ∨ vr < 0) ↔ vr < 0 by omega)]
  refine K1.up ?_
  simp only [horariumlaw15_PairNever.j7]
  refine Ev.congr e (K1.up ?_)
  simp only [horariumlaw15_PairNever.j8, ite_dec]
  have e2 : ∀ k, (if ur < 0 ∨ vr < 0 then horariumlaw15_PairNever.j9 k kd n wl (i : Int) 0 g0 g1 g2 aw ad ap al ar bw bd bp bl br uw ud up ul ur vw vd vp vl vr else horariumlaw15_PairNever.j9 k kd n wl (i : Int) wl g0 g1 g2 aw ad ap al ar bw bd bp bl br uw ud up ul ur vw vd vp vl vr) = horariumlaw15_PairNever.j9 k kd n wl (i : Int) (if ur < 0 ∨ vr < 0 then 0 else wl) g0 g1 g2 aw ad ap al ar bw bd bp bl br uw ud up ul ur vw vd vp vl vr := by
    intro k
    by_cases h : ur < 0 ∨ vr < 0
    · rw [if_pos h, if_pos h]
    · rw [if_neg h, if_neg h]
  refine Ev.congr e2 (K1.up ?_)
  simp only [horariumlaw15_PairNever.j9, w64s (n := i) (by omega)]
  by_cases hw : wl ≥ 0
  · simp only [if_pos hw]
    refine Ev.bind (Never_ev (range32 hu u0) (range8 hu u1) (range32 hv v0) (range8 hv v1)) ?_
    generalize hN : NV kd uw ur vw vr _ _ = b
    cases b with
    | false => simp only [Bool.false_eq_true, if_false]; exact hl
    | true =>
      simp only [if_true]
      by_cases ha : ar = -2
      · simp only [if_pos ha]; exact hl
      · simp only [if_neg ha]
        by_cases hb : br = -2
        · simp only [if_pos hb]; exact hl
        · simp only [if_neg hb]
          refine Ev.bind (Never_ev u0 u1 v0 v1) ?_
          rw [NV_known hx hy hu hv hr hq ha hb rfl hN]
          simp only [if_true]
          exact hl
  · simp only [if_neg hw]
    exact hl
theorem l0_ev (u0 : 0 ≤ aw ∧ aw < 4294967296) (u1 : 0 ≤ ad ∧ ad < 256) (v0 : 0 ≤ bw ∧ bw < 4294967296) (v1 : 0 ≤ bd ∧ bd < 256) (hx : aw ≠ 0) (hy : bw ≠ 0) (hi : i < 16)
    (hl : Ev (fun k => horariumlaw15_PairNever.l0 k kd n wl ((i + 1 : Nat) : Int) g0 g1 g2 aw ad ap al ar bw bd bp bl br) true) :
    Ev (fun k => horariumlaw15_PairNever.l0 k kd n wl (i : Int) g0 g1 g2 aw ad ap al ar bw bd bp bl br) true := by
  have s7 : ∀ {uw ud up ul ur vw vd vp vl vr : Int}, WH uw ud up ul aw ad ap al → WH vw vd vp vl bw bd bp bl → RM ur ar → RM vr br → Ev (fun k => horariumlaw15_PairNever.j7 k kd n wl (i : Int) g0 g1 g2 aw ad ap al ar bw bd bp bl br uw ud up ul ur vw vd vp vl vr) true := fun hu hv hr hq => j7_ev u0 u1 v0 v1 hx hy hi hl hu hv hr hq
  have s5 : ∀ {uw ud up ul ur vw vd vp vl : Int}, WH uw ud up ul aw ad ap al → WH vw vd vp vl bw bd bp bl → RM ur ar → Ev (fun k => horariumlaw15_PairNever.j5 k kd n wl (i : Int) g0 g1 g2 aw ad ap al ar bw bd bp bl br uw ud up ul ur vw vd vp vl br) true := by
    intro uw ud up ul ur vw vd vp vl hu hv hr
    have s6 : ∀ b : Bool, (b = true → br ≥ 0) → Ev (fun k => horariumlaw15_PairNever.j6 k kd n wl (i : Int) b g0 g1 g2 aw ad ap al ar bw bd bp bl br uw ud up ul ur vw vd vp vl br) true := by
      intro b hb
      refine K1.up ?_
      simp only [horariumlaw15_PairNever.j6]
      cases b with
      | true => simp only [if_true]; exact s7 hu hv hr (Or.inr ⟨hb rfl, rfl⟩)
      | false => simp only [Bool.false_eq_true, if_false]; exact s7 hu hv hr (Or.inl rfl)
    refine K1.up ?_
    simp only [horariumlaw15_PairNever.j5]
    split
    · exact s6 _ fun h => of_decide_eq_true h
    · exact s6 _ fun h => by cases h
  have s3 : ∀ {uw ud up ul vw vd vp vl : Int}, WH uw ud up ul aw ad ap al → WH vw vd vp vl bw bd bp bl → Ev (fun k => horariumlaw15_PairNever.j3 k kd n wl (i : Int) g0 g1 g2 aw ad ap al ar bw bd bp bl br uw ud up ul ar vw vd vp vl br) true := by
    intro uw ud up ul vw vd vp vl hu hv
    have s4 : ∀ b : Bool, (b = true → ar ≥ 0) → Ev (fun k => horariumlaw15_PairNever.j4 k kd n wl (i : Int) b g0 g1 g2 aw ad ap al ar bw bd bp bl br uw ud up ul ar vw vd vp vl br) true := by
      intro b hb
      refine K1.up ?_
      simp only [horariumlaw15_PairNever.j4]
      cases b with
      | true => simp only [if_true]; exact s5 hu hv (Or.inr ⟨hb rfl, rfl⟩)
      | false => simp only [Bool.false_eq_true, if_false]; exact s5 hu hv (Or.inl rfl)
    refine K1.up ?_
    simp only [horariumlaw15_PairNever.j3]
    split
    · exact s4 _ fun h => of_decide_eq_true h
    · exact s4 _ fun h => by cases h
  have s2 : ∀ {uw ud up ul : Int}, WH uw ud up ul aw ad ap al → Ev (fun k => horariumlaw15_PairNever.j2 k kd n wl (i : Int) g0 g1 g2 aw ad ap al ar bw bd bp bl br uw ud up ul ar bw bd bp bl br) true := by
    intro uw ud up ul hu
    refine K1.up ?_
    simp only [horariumlaw15_PairNever.j2]
    split
    · exact s3 hu (Or.inr ⟨rfl, rfl, rfl, rfl⟩)
    · exact s3 hu (Or.inl ⟨rfl, rfl, rfl, rfl⟩)
  refine K1.up ?_
  simp only [horariumlaw15_PairNever.l0]
  simp only [if_pos (show (i : Int) < 16 by omega)]
  split
  · exact s2 (Or.inr ⟨rfl, rfl, rfl, rfl⟩)
  · exact s2 (Or.inl ⟨rfl, rfl, rfl, rfl⟩)
theorem j10_ev (u0 : 0 ≤ aw ∧ aw < 4294967296) (u1 : 0 ≤ ad ∧ ad < 256) (v0 : 0 ≤ bw ∧ bw < 4294967296) (v1 : 0 ≤ bd ∧ bd < 256) (hx : aw ≠ 0) (hy : bw ≠ 0) (b : Bool) (hb : b = true → ar ≠ -2 ∧ br ≠ -2) :
    Ev (fun k => horariumlaw15_PairNever.j10 k kd n wl b g0 g1 g2 aw ad ap al ar bw bd bp bl br) true := by
  refine K1.up ?_
  simp only [horariumlaw15_PairNever.j10]
  cases b with
  | false => simp only [Bool.false_eq_true, if_false]; exact Ev.bind heads_ev (Ev.now _)
  | true =>
    have hp : decide (ar ≠ -2 ∧ br ≠ -2) = true := decide_eq_true (hb rfl)
    have ht : decide (aw ≠ 0 ∧ bw ≠ 0) = true := decide_eq_true ⟨hx, hy⟩
    simp only [if_true]
    refine Ev.bind (Never_ev u0 u1 v0 v1) ?_
    simp only [Known_f, Option.bind_some, ite_dec]
    by_cases hk : KN kd
    · simp only [if_pos hk]
      refine Ev.bind (Holds_ev u0 u1 v0 v1) ?_
      by_cases h14 : kd = 14 ∧ wl < 0
      · simp only [if_pos h14.1, if_pos h14.2]
        split <;> exact Ev.bind heads_ev (Ev.now _)
      · have e : NV kd aw ar bw br (HB g0 g1 g2 kd n aw ad ap al ar bw bd bp bl br wl) (HB g0 g1 g2 kd n aw ad ap al ar bw bd bp bl br 0) = !HB g0 g1 g2 kd n aw ad ap al ar bw bd bp bl br wl := by
          unfold NV
          by_cases c14 : kd = 14
          · subst c14
            rw [if_pos rfl, ht, hp, Bool.true_and, Bool.and_true]
            cases h : HB g0 g1 g2 14 n aw ad ap al ar bw bd bp bl br wl with
            | true => rw [HB_less (by omega) h]; rfl
            | false => simp
          · rw [if_neg c14, ht, hp, decide_eq_true hk]
            by_cases cr : kd = 10 ∨ kd = 11
            · rw [if_pos cr, Bool.true_or, Bool.true_and]
            · rw [if_neg cr, Bool.true_and, Bool.true_and]
        rw [e]
        simp only [beq_self_eq_true, if_true]
        exact Ev.bind heads_ev (Ev.now _)
    · simp only [if_neg hk]
      have e : NV kd aw ar bw br (HB g0 g1 g2 kd n aw ad ap al ar bw bd bp bl br wl) (HB g0 g1 g2 kd n aw ad ap al ar bw bd bp bl br 0) = false := by
        unfold NV
        unfold KN at hk
        rw [if_neg (show ¬ kd = 14 by omega), if_neg (show ¬ (kd = 10 ∨ kd = 11) by omega), decide_eq_false (show ¬ KN kd from hk)]
        rfl
      rw [e]
      simp only [beq_self_eq_true, if_true]
      exact Ev.bind heads_ev (Ev.now _)
end
theorem PairNever : ∀ (a0_0 : Int) (a0_1 : Int) (a0_2 : Int) (a1 : Int) (a2 : Int) (a3_0 : Int) (a3_1 : Int) (a3_2 : Int) (a3_3 : Int) (a3_4 : Int) (a4_0 : Int) (a4_1 : Int) (a4_2 : Int) (a4_3 : Int) (a4_4 : Int) (a5 : Int), (Lit.int .i64 a0_0).wf = true → (Lit.int .i64 a0_1).wf = true → (Lit.int .i64 a0_2).wf = true → (Lit.int .i64 a1).wf = true → (Lit.int .i64 a2).wf = true → (Lit.int .u32 a3_0).wf = true → (Lit.int .u8 a3_1).wf = true → (Lit.int .i64 a3_2).wf = true → (Lit.int .i64 a3_3).wf = true → (Lit.int .i64 a3_4).wf = true → (Lit.int .u32 a4_0).wf = true → (Lit.int .u8 a4_1).wf = true → (Lit.int .i64 a4_2).wf = true → (Lit.int .i64 a4_3).wf = true → (Lit.int .i64 a4_4).wf = true → (Lit.int .i64 a5).wf = true → ∃ k, horariumlaw15_PairNever.f k a0_0 a0_1 a0_2 a1 a2 a3_0 a3_1 a3_2 a3_3 a3_4 a4_0 a4_1 a4_2 a4_3 a4_4 a5 = some true := by
  intro g0 g1 g2 kd n aw ad ap al ar bw bd bp bl br wl _ _ _ _ _ u0 u1 _ u3 _ v0 v1 _ v3 _ _
  replace u0 := wf_u32 u0
  replace u1 := wf_u8 u1
  replace u3 := wf_i64 u3
  replace v0 := wf_u32 v0
  replace v1 := wf_u8 v1
  replace v3 := wf_i64 v3
  refine Ev.rounds ?_
  have hj0 : Ev (fun k => horariumlaw15_PairNever.j0 k kd n wl true g0 g1 g2 aw ad ap al ar bw bd bp bl br) true := by
    refine K1.up ?_
    simp only [horariumlaw15_PairNever.j0, if_true]
    exact Ev.bind heads_ev (Ev.now _)
  have htame : horariumlaw15_tame.f aw ad ap al ar bw bd bp bl br = some (decide (ar ≥ -2 ∧ br ≥ -2)) := by
    unfold horariumlaw15_tame.f
    by_cases h : ar ≥ -2
    · rw [if_pos h]; exact congrArg some (decide_eq_decide.mpr (by omega))
    · rw [if_neg h, decide_eq_false (by omega)]
  unfold horariumlaw15_PairNever.f
  simp only [htame, Option.bind_some, ite_dec]
  by_cases ht : ar ≥ -2 ∧ br ≥ -2
  · simp only [if_pos ht]
    refine Ev.bind (ref_Right_f u0 u1 u3) ?_
    simp only [ite_dec]
    by_cases ha : RT g0 g1 g2 aw ad ap al
    · simp only [if_pos ha]
      refine Ev.bind (ref_Right_f v0 v1 v3) ?_
      by_cases hb : RT g0 g1 g2 bw bd bp bl
      · simp only [decide_eq_true hb, Bool.not_true]
        have hx : aw ≠ 0 := ha.2.2.2.1
        have hy : bw ≠ 0 := hb.2.2.2.1
        refine K1.up ?_
        simp only [horariumlaw15_PairNever.j0, Bool.false_eq_true, if_false]
        have key : ∀ d i : Nat, i ≤ 16 → 16 - i = d → Ev (fun k => horariumlaw15_PairNever.l0 k kd n wl (i : Int) g0 g1 g2 aw ad ap al ar bw bd bp bl br) true := by
          intro d
          induction d with
          | zero =>
            intro i hi hd
            obtain rfl : i = 16 := by omega
            refine K1.up ?_
            simp only [horariumlaw15_PairNever.l0]
            simp only [if_neg (show ¬ ((16 : Nat) : Int) < 16 by decide)]
            by_cases h : ar = -2
            · simp only [if_pos h]; exact j10_ev u0 u1 v0 v1 hx hy _ fun h2 => by cases h2
            · simp only [if_neg h]; exact j10_ev u0 u1 v0 v1 hx hy _ fun h2 => ⟨h, bne_iff_ne.mp h2⟩
          | succ d ih =>
            intro i hi hd
            exact l0_ev u0 u1 v0 v1 hx hy (by omega) (ih (i + 1) (by omega) (by omega))
        exact key 16 0 (by omega) (by omega)
      · simp only [decide_eq_false hb, Bool.not_false]
        exact hj0
    · simp only [if_neg ha]
      exact hj0
  · simp only [if_neg ht]
    exact hj0
end Go.Proofs.Ytddheiloodfkdaa.Pure
