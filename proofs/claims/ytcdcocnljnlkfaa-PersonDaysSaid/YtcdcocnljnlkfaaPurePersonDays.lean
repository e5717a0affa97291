/- The law PersonDays, over numbers alone. -/
import Derived.Test.YtcdcocnljnlkfaaQ27
import Derived.Test.YtcdcocnljnlkfaaQ28
import Derived.Test.YtcdcocnljnlkfaaQ29
import Derived.Test.YtcdcocnljnlkfaaQ30
import Derived.Test.YtcdcocnljnlkfaaQ31
import Derived.Test.YtcdcocnljnlkfaaP2
set_option linter.unusedVariables false
set_option linter.unusedSimpArgs false
namespace Go.Proofs.Ytcdcocnljnlkfaa.Pure
open Go.RowKit Go.Proofs.YtcdcocnljnlkfaaW.PrintWords Go.Proofs.YtcdcocnljnlkfaaW.PrintLast Go.Proofs.YtcdcocnljnlkfaaW.PrintMore Go.Proofs.Ytcdcocnljnlkfaa.M Go.Proofs.Ytcdcocnljnlkfaa.Q Go.Proofs.Ytcdcocnljnlkfaa.L1 Go.Proofs.Ytcdcocnljnlkfaa.L2 Go.Proofs.Ytcdcocnljnlkfaa.P1 Go.Proofs.Ytcdcocnljnlkfaa.P2 Go.Proofs.Ytcdcocnljnlkfaa.W1 Go.Proofs.Ytcdcocnljnlkfaa.W2 Go.Proofs.Ytcdcocnljnlkfaa.W4
theorem heads_ev : Ev (fun k => horariumlaw12_heads.f k) true := Ev.of (fun k => horariumlaw12_heads.mono k) (k := 60) (by decide +kernel)
theorem GV_of {l : List S27} (h : ∀ x ∈ l, ((Lit.int .u32 x.f0).wf = true ∧ (Lit.int .u8 x.f1).wf = true ∧ (Lit.int .i64 x.f2).wf = true ∧ (Lit.int .i64 x.f3).wf = true)) : GV l :=
  fun x hx => ⟨wf_u32 (h x hx).1, wf_u8 (h x hx).2.1, wf_i64 (h x hx).2.2.2⟩
section
variable {W D S : Nat} {l : List S27}
/-- Is a slot of a day in one time? -/
theorem mom_at (hg : RG W D S) {w0 w1 w2 w3 : Int} {d s : Nat} (hd : d < W * D) (hs : s < S) : decide (((d * S + s : Nat) : Int) ∈ MOM W D S w0 w1 w2 w3) = (decide (RT W D S w0 w1 w2 w3) && (w0.toNat.testBit (d / D) && w1.toNat.testBit (d % D) && (decide (w2.toNat ≤ s) && decide (s < w2.toNat + w3.toNat)))) := by
  have e1 : (d * S + s) / S = d := by rw [Nat.add_comm, Nat.add_mul_div_right _ _ (by omega), Nat.div_eq_of_lt hs, Nat.zero_add]
  have e2 : (d * S + s) % S = s := by rw [Nat.add_comm, Nat.add_mul_mod_self_right, Nat.mod_eq_of_lt hs]
  unfold MOM
  by_cases h : RT W D S w0 w1 w2 w3
  · rw [if_pos h, decide_eq_true h, Bool.true_and]
    refine Bool.eq_iff_iff.mpr ?_
    rw [decide_eq_true_eq, FL_mem]
    simp only [Int.toNat_natCast]
    have hlt : d * S + s < W * D * S := by
      have := Nat.mul_le_mul_right S (show d + 1 ≤ W * D by omega)
      rw [Nat.succ_mul] at this
      omega
    constructor
    · rintro ⟨m, _, hp, hm⟩
      obtain rfl : d * S + s = m := by omega
      unfold pm qb at hp
      rw [e1, e2] at hp
      exact hp
    · intro hp
      refine ⟨d * S + s, hlt, ?_, rfl⟩
      unfold pm qb
      rw [e1, e2]
      exact hp
  · rw [if_neg h, decide_eq_false h, Bool.false_and, decide_eq_false (by simp)]
theorem in_f (hg : RG W D S) (hl : l.length < 1000000) (hv : GV l) {d s : Nat} (hd : d < W * D) (hd2 : d ≤ 140) (hs : s < S) : Ev (fun k => horariumref12_in.f k W D S l d s) (HIT l W D S (d * S + s)) := by
  have hg' := hg
  unfold RG at hg'
  have q2 : d / D < W := Nat.div_lt_of_lt_mul (by rw [Nat.mul_comm]; exact hd)
  have q3 : d % D < D := Nat.mod_lt _ (by omega)
  have q4 : d / D ≤ d := Nat.div_le_self _ _
  have t3 := Aside0.mk (w64n (d / D) (by omega))
  have t1 := Aside0.mk (show Int.tdiv (d : Int) D = ((d / D : Nat) : Int) by rw [Int.tdiv_eq_ediv_of_nonneg (Int.natCast_nonneg _)]; rfl)
  have t2 := Aside0.mk (show Int.tmod (d : Int) D = ((d % D : Nat) : Int) by rw [Int.tmod_eq_emod_of_nonneg (Int.natCast_nonneg _)]; rfl)
  unfold horariumref12_in.f
  have body : ∀ i : Nat, i < l.length → ∀ b : Bool, decide (((d * S + s : Nat) : Int) ∈ MOMx W D S (rd_T27 l i)) = b → ∀ r, (b = true → r = true) → (b = false → Ev (fun k => horariumref12_in.l0 k l d s ((i + 1 : Nat) : Int) W D S) r) → Ev (fun k => horariumref12_in.l0 k l d s (i : Int) W D S) r := by
    intro i hi b hb r h1 h2
    have hmem : rd_T27 l i ∈ l := by rw [rd_at, List.getD_eq_getElem?_getD, List.getElem?_eq_getElem hi]; exact List.getElem_mem hi
    obtain ⟨u0, u1, u3⟩ := hv _ hmem
    unfold MOMx at hb
    rw [mom_at hg hd hs] at hb
    have ti := Aside0.mk (w64s (n := i) (by omega))
    have hR := ref_Right_f (g0 := (W : Int)) (g1 := (D : Int)) (g2 := (S : Int)) (w2 := (rd_T27 l i).f2) u0 u1 u3
    refine Ev.step (f := fun k => (horariumref09_Right.f k W D S ((rd_T27 l i).f0) ((rd_T27 l i).f1) ((rd_T27 l i).f2) ((rd_T27 l i).f3)).bind fun t => if t = true then ((horariumref09_On.f k ((rd_T27 l i).f0) ((rd_T27 l i).f1) ((rd_T27 l i).f2) ((rd_T27 l i).f3) ((d / D : Nat) : Int) ((d % D : Nat) : Int) s).bind fun t2 => if t2 = true then some true else horariumref12_in.l0 k l d s ((i + 1 : Nat) : Int) W D S) else horariumref12_in.l0 k l d s ((i + 1 : Nat) : Int) W D S) (fun k => ?_) (Ev.bind hR ?_)
    · simp only [horariumref12_in.l0]
      rw [t1.out, t2.out, t3.out, ti.out, if_pos (by omega), if_pos (by omega)]
      simp only [if_neg (show ¬ (D : Int) = 0 by omega)]
    · simp only [decide_eq_true_eq]
      by_cases h : RT W D S (rd_T27 l i).f0 (rd_T27 l i).f1 (rd_T27 l i).f2 (rd_T27 l i).f3
      · simp only [if_pos h]
        rw [decide_eq_true h, Bool.true_and] at hb
        have htm := h.2.1
        have htm' := htm
        unfold TM at htm'
        have on := On_f (wk := (rd_T27 l i).f0.toNat) (dy := (rd_T27 l i).f1.toNat) (st := (rd_T27 l i).f2.toNat) (ln := (rd_T27 l i).f3.toNat) (by omega) (by omega) (by rw [Int.toNat_of_nonneg htm'.1, Int.toNat_of_nonneg (by omega)]; exact htm) (a := d / D) (b := d % D) (by omega) (by omega) (c := s)
        rw [hb, Int.toNat_of_nonneg u0.1, Int.toNat_of_nonneg u1.1, Int.toNat_of_nonneg htm'.1, Int.toNat_of_nonneg (show 0 ≤ (rd_T27 l i).f3 by omega)] at on
        refine Ev.bind on ?_
        cases b with
        | true => simp only [if_true]; rw [h1 rfl]; exact Ev.now _
        | false => simp only [Bool.false_eq_true, if_false]; exact h2 rfl
      · simp only [if_neg h]
        rw [decide_eq_false h, Bool.false_and] at hb
        exact h2 hb.symm
  have key := loop_any (L := fun k i => horariumref12_in.l0 k l d s i W D S) (n := l.length) (P := fun i => decide (((d * S + s : Nat) : Int) ∈ MOMx W D S (rd_T27 l i)) = true) (re := false) (rb := true) ?_ ?_ ?_
  · have hiff : (∀ i : Nat, i < l.length → ¬ decide (((d * S + s : Nat) : Int) ∈ MOMx W D S (rd_T27 l i)) = true) ↔ HIT l W D S (d * S + s) = false := by
      unfold HIT
      rw [List.any_eq_false]
      constructor
      · intro h x hx
        obtain ⟨i, hi, rfl⟩ := List.mem_iff_getElem.mp hx
        have := h i hi
        rw [rd_at, List.getD_eq_getElem?_getD, List.getElem?_eq_getElem hi] at this
        exact this
      · intro h i hi
        refine h _ ?_
        rw [rd_at, List.getD_eq_getElem?_getD, List.getElem?_eq_getElem hi]
        exact List.getElem_mem hi
    rw [hiff] at key
    cases hh : HIT l W D S (d * S + s) with
    | false => exact key.1 hh
    | true => exact key.2 (by rw [hh]; decide)
  · intro i hi hp r h
    exact body i hi false (by simpa using hp) r (fun h => by cases h) fun _ => h
  · intro i hi hp
    exact body i hi true hp true (fun _ => rfl) fun h => by cases h
  · intro _
    refine Ev.step (fun k => ?_) (Ev.now _)
    simp only [horariumref12_in.l0]
    rw [if_neg (by omega)]
theorem days_f (g0 g1 g2 : Int) : horariumref12_days.f g0 g1 g2 = some (if RG g0 g1 g2 then wrap64 (g0 * g1) else 0) := by
  unfold horariumref12_days.f
  rw [ref_RightGrid_f, Option.bind_some]
  by_cases h : RG g0 g1 g2
  · rw [decide_eq_true h, if_pos rfl, if_pos h]
  · rw [decide_eq_false h, if_neg (by decide), if_neg h]
theorem ref_Busy_l1 (hg : RG W D S) (hl : l.length < 1000000) (hv : GV l) {d : Nat} (hd : d < W * D) (hd2 : d ≤ 140) {acc : List Int} (hacc : acc.length < 17592186044416) (r : List Int)
    (h : Ev (fun k => horariumref12_Busy.l0 k l (acc ++ [((CN (fun s => HIT l W D S (d * S + s)) S : Nat) : Int)]) ((d + 1 : Nat) : Int) W D S) r) :
    Ev (fun k => horariumref12_Busy.l1 k l acc d 0 0 W D S) r := by
  have hg' := hg
  unfold RG at hg'
  refine loop_inv (L := fun k (c : Int) (s : Int) => horariumref12_Busy.l1 k l acc d c s W D S) (n := S) (fun s => ((CN (fun s => HIT l W D S (d * S + s)) s : Nat) : Int)) ?_ r ?_
  · intro s hs r h
    have hc := CN_le (fun s => HIT l W D S (d * S + s)) s
    have t1 := Aside0.mk (w64s (n := s) (by omega))
    have t2 := Aside0.mk (w64s (n := CN (fun s => HIT l W D S (d * S + s)) s) (by omega))
    refine Ev.step (f := fun k => (horariumref12_in.f k W D S l d s).bind fun t => if t = true then horariumref12_Busy.l1 k l acc d ((CN (fun s => HIT l W D S (d * S + s)) s + 1 : Nat) : Int) ((s + 1 : Nat) : Int) W D S else horariumref12_Busy.l1 k l acc d ((CN (fun s => HIT l W D S (d * S + s)) s : Nat) : Int) ((s + 1 : Nat) : Int) W D S) (fun k => ?_) (Ev.bind (in_f hg hl hv hd hd2 hs) ?_)
    · simp only [horariumref12_Busy.l1]
      rw [if_pos (by omega), t1.out, t2.out]
    · rw [CN] at h
      cases hh : HIT l W D S (d * S + s) with
      | true => simp only [hh, if_true] at h ⊢; exact h
      | false => simp only [hh, Bool.false_eq_true, if_false, Nat.add_zero] at h ⊢; exact h
  · refine Ev.step (fun k => ?_) h
    simp only [horariumref12_Busy.l1]
    rw [if_neg (by omega), if_pos hacc, w64s (by omega)]
theorem ref_Spread_l1 (hg : RG W D S) (hl : l.length < 1000000) (hv : GV l) {d : Nat} (hd : d < W * D) (hd2 : d ≤ 140) {acc : List Int} (hacc : acc.length < 17592186044416) (r : List Int)
    (h : Ev (fun k => horariumref12_Spread.l0 k l (acc ++ [SP (fun s => HIT l W D S (d * S + s)) S]) ((d + 1 : Nat) : Int) W D S) r) :
    Ev (fun k => horariumref12_Spread.l1 k l acc d (-1) (-2) 0 W D S) r := by
  have hg' := hg
  unfold RG at hg'
  refine loop_inv (L := fun k (c : Int × Int) (s : Int) => horariumref12_Spread.l1 k l acc d c.1 c.2 s W D S) (n := S) (fun s => (FS (fun s => HIT l W D S (d * S + s)) s, LS (fun s => HIT l W D S (d * S + s)) s)) ?_ r ?_
  · intro s hs r h
    have t1 := Aside0.mk (w64s (n := s) (by omega))
    refine Ev.step (f := fun k => (horariumref12_in.f k W D S l d s).bind fun t => if t = true then (if FS (fun s => HIT l W D S (d * S + s)) s < 0 then horariumref12_Spread.l1 k l acc d s s ((s + 1 : Nat) : Int) W D S else horariumref12_Spread.l1 k l acc d (FS (fun s => HIT l W D S (d * S + s)) s) s ((s + 1 : Nat) : Int) W D S) else horariumref12_Spread.l1 k l acc d (FS (fun s => HIT l W D S (d * S + s)) s) (LS (fun s => HIT l W D S (d * S + s)) s) ((s + 1 : Nat) : Int) W D S) (fun k => ?_) (Ev.bind (in_f hg hl hv hd hd2 hs) ?_)
    · simp only [horariumref12_Spread.l1]
      rw [if_pos (by omega), t1.out]
    · have hF := FS_facts (fun s => HIT l W D S (d * S + s)) s
      simp only [FS, LS] at h
      cases hh : HIT l W D S (d * S + s) with
      | true =>
        simp only [hh, if_true] at h ⊢
        by_cases hf : FS (fun s => HIT l W D S (d * S + s)) s < 0
        · simp only [if_pos hf] at h ⊢; exact h
        · simp only [if_neg hf] at h ⊢; exact h
      | false =>
        simp only [hh, Bool.false_eq_true, if_false] at h ⊢
        by_cases hf : FS (fun s => HIT l W D S (d * S + s)) s < 0
        · simp only [if_pos hf] at h
          have : FS (fun s => HIT l W D S (d * S + s)) s = -1 := by rcases hF with h1 | h1 <;> omega
          rw [this]; exact h
        · simp only [if_neg hf] at h; exact h
  · have hb : -1 ≤ FS (fun s => HIT l W D S (d * S + s)) S ∧ FS (fun s => HIT l W D S (d * S + s)) S < 1000 ∧ -2 ≤ LS (fun s => HIT l W D S (d * S + s)) S ∧ LS (fun s => HIT l W D S (d * S + s)) S < 1000 := by
      rcases FS_facts (fun s => HIT l W D S (d * S + s)) S with ⟨h1, h2, _⟩ | ⟨h1, h2, h3, _⟩ <;> omega
    have t1 := Aside0.mk (w64 (n := LS (fun s => HIT l W D S (d * S + s)) S - FS (fun s => HIT l W D S (d * S + s)) S) (by omega) (by omega))
    have t2 := Aside0.mk (w64 (n := LS (fun s => HIT l W D S (d * S + s)) S - FS (fun s => HIT l W D S (d * S + s)) S + 1) (by omega) (by omega))
    have t3 := Aside0.mk (w64s (n := d) (by omega))
    have e : mx (LS (fun s => HIT l W D S (d * S + s)) S - FS (fun s => HIT l W D S (d * S + s)) S + 1) 0 = SP (fun s => HIT l W D S (d * S + s)) S := by unfold mx SP; omega
    refine Ev.step (fun k => ?_) h
    simp only [horariumref12_Spread.l1]
    rw [if_neg (by omega), if_pos hacc, t1.out, t2.out, t3.out, e]
theorem ref_Busy_f {g0 g1 g2 : Int} (hl : l.length < 1000000) (hv : GV l) : Ev (fun k => horariumref12_Busy.f k g0 g1 g2 l) (BUSY l g0 g1 g2) := by
  unfold horariumref12_Busy.f BUSY
  by_cases hg : RG g0 g1 g2
  · obtain ⟨b1, b2⟩ := RG_nat hg
    rw [if_pos hg]
    have hg' := hg
    unfold RG at hg'
    obtain ⟨W, rfl⟩ := nat_of (show 0 ≤ g0 by omega)
    obtain ⟨D, rfl⟩ := nat_of (show 0 ≤ g1 by omega)
    obtain ⟨S, rfl⟩ := nat_of (show 0 ≤ g2 by omega)
    simp only [Int.toNat_natCast] at b1 b2 ⊢
    have hw : wrap64 ((W : Int) * D) = ((W * D : Nat) : Int) := by rw [← Int.natCast_mul]; exact w64n _ (by omega)
    have HW := Aside0.mk hw
    clear hw
    refine loop_inv (L := fun k (acc : List Int) (d : Int) => horariumref12_Busy.l0 k l acc d W D S) (n := W * D) (fun d => (List.range d).map fun d => ((CN (fun s => HIT l W D S (d * S + s)) S : Nat) : Int)) ?_ _ ?_
    · intro d hd r h
      rw [List.range_succ, List.map_append] at h
      refine Ev.step (fun k => ?_) (ref_Busy_l1 hg hl hv hd (by omega) (by simp; omega) r h)
      simp only [horariumref12_Busy.l0]
      rw [days_f, if_pos hg, HW.out, Option.bind_some, if_pos (Int.ofNat_lt.mpr hd)]
    · refine Ev.step (f := fun _ => some _) (fun k => ?_) (Ev.now _)
      simp only [horariumref12_Busy.l0]
      rw [days_f, if_pos hg, HW.out, Option.bind_some, if_neg (Int.lt_irrefl _)]
  · rw [if_neg hg]
    refine Ev.step (f := fun _ => some _) (fun k => ?_) (Ev.now _)
    simp only [horariumref12_Busy.l0]
    rw [days_f, if_neg hg, Option.bind_some, if_neg (by decide)]
theorem ref_Spread_f {g0 g1 g2 : Int} (hl : l.length < 1000000) (hv : GV l) : Ev (fun k => horariumref12_Spread.f k g0 g1 g2 l) (SPREAD l g0 g1 g2) := by
  unfold horariumref12_Spread.f SPREAD
  by_cases hg : RG g0 g1 g2
  · obtain ⟨b1, b2⟩ := RG_nat hg
    rw [if_pos hg]
    have hg' := hg
    unfold RG at hg'
    obtain ⟨W, rfl⟩ := nat_of (show 0 ≤ g0 by omega)
    obtain ⟨D, rfl⟩ := nat_of (show 0 ≤ g1 by omega)
    obtain ⟨S, rfl⟩ := nat_of (show 0 ≤ g2 by omega)
    simp only [Int.toNat_natCast] at b1 b2 ⊢
    have hw : wrap64 ((W : Int) * D) = ((W * D : Nat) : Int) := by rw [← Int.natCast_mul]; exact w64n _ (by omega)
    have HW := Aside0.mk hw
    clear hw
    refine loop_inv (L := fun k (acc : List Int) (d : Int) => horariumref12_Spread.l0 k l acc d W D S) (n := W * D) (fun d => (List.range d).map fun d => SP (fun s => HIT l W D S (d * S + s)) S) ?_ _ ?_
    · intro d hd r h
      rw [List.range_succ, List.map_append] at h
      refine Ev.step (fun k => ?_) (ref_Spread_l1 hg hl hv hd (by omega) (by simp; omega) r h)
      simp only [horariumref12_Spread.l0]
      rw [days_f, if_pos hg, HW.out, Option.bind_some, if_pos (Int.ofNat_lt.mpr hd)]
    · refine Ev.step (f := fun _ => some _) (fun k => ?_) (Ev.now _)
      simp only [horariumref12_Spread.l0]
      rw [days_f, if_pos hg, HW.out, Option.bind_some, if_neg (Int.lt_irrefl _)]
  · rw [if_neg hg]
    refine Ev.step (f := fun _ => some _) (fun k => ?_) (Ev.now _)
    simp only [horariumref12_Spread.l0]
    rw [days_f, if_neg hg, Option.bind_some, if_neg (by decide)]
end
theorem BUSY_len (l : List S27) (g0 g1 g2 : Int) : (BUSY l g0 g1 g2).length ≤ 140 := by
  unfold BUSY
  split
  · rename_i h; rw [List.length_map, List.length_range]; exact (RG_nat h).1
  · simp
theorem SPREAD_len (l : List S27) (g0 g1 g2 : Int) : (SPREAD l g0 g1 g2).length ≤ 140 := by
  unfold SPREAD
  split
  · rename_i h; rw [List.length_map, List.length_range]; exact (RG_nat h).1
  · simp
theorem PersonDays : ∀ (a0_0 : Int) (a0_1 : Int) (a0_2 : Int) (l1 : List (S27)), (Lit.int .i64 a0_0).wf = true → (Lit.int .i64 a0_1).wf = true → (Lit.int .i64 a0_2).wf = true → (∀ x ∈ l1, ((Lit.int .u32 x.f0).wf = true ∧ (Lit.int .u8 x.f1).wf = true ∧ (Lit.int .i64 x.f2).wf = true ∧ (Lit.int .i64 x.f3).wf = true)) → ∃ k, horariumlaw12_PersonDays.f k a0_0 a0_1 a0_2 l1 = some true := by
  intro g0 g1 g2 l _ _ _ hl
  replace hl := GV_of hl
  refine Ev.rounds ?_
  unfold horariumlaw12_PersonDays.f horariumlaw12_few.f
  simp only [Option.bind_some, decide_eq_true_eq]
  by_cases h30 : (l.length : Int) ≤ 30
  · have hm : l.length < 1000000 := by omega
    simp only [if_pos h30]
    refine Ev.bind (Busy_f hm hl) (Ev.bind (ref_Busy_f hm hl) (Ev.bind (Ints_same (Nat.le_trans (BUSY_len l g0 g1 g2) (by decide))) ?_))
    simp only [if_true]
    refine Ev.bind (Spread_f hm hl) (Ev.bind (ref_Spread_f hm hl) (Ev.bind (Ints_same (Nat.le_trans (SPREAD_len l g0 g1 g2) (by decide))) ?_))
    simp only [if_true]
    exact Ev.bind heads_ev (Ev.now _)
  · simp only [if_neg h30]
    exact Ev.bind heads_ev (Ev.now _)
end Go.Proofs.Ytcdcocnljnlkfaa.Pure
