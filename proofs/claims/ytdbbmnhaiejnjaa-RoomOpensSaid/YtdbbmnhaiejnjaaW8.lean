/- Two times of a grid: their common moments are those of what both have (plain; no program in sight but for the words of W1 to W3). -/
import Derived.Test.YtdbbmnhaiejnjaaW2a
import Derived.Test.YtdbbmnhaiejnjaaW3a
namespace Go.Proofs.Ytdbbmnhaiejnjaa.W8
open Go.RowKit Go.Proofs.YtdbbmnhaiejnjaaW.PrintWords Go.Proofs.Ytdbbmnhaiejnjaa.M Go.Proofs.Ytdbbmnhaiejnjaa.W1 Go.Proofs.Ytdbbmnhaiejnjaa.W2 Go.Proofs.Ytdbbmnhaiejnjaa.W3

theorem FL_filter (p q : Nat → Bool) (n : Nat) : (FL p n).filter (fun x => decide (x ∈ FL q n)) = FL (fun m => p m && q m) n := by
  unfold FL
  rw [List.filter_map, List.filter_filter]
  congr 1
  refine List.filter_congr fun m hm => ?_
  rw [Bool.and_comm]
  congr 1
  rw [Bool.eq_iff_iff]
  simp only [Function.comp_apply, decide_eq_true_eq, List.mem_map, List.mem_filter]
  constructor
  · rintro ⟨a, ⟨_, h⟩, h2⟩
    rw [Int.natCast_inj] at h2
    rwa [h2] at h
  · intro h
    exact ⟨m, ⟨hm, h⟩, rfl⟩
theorem FL_len_le (p q : Nat → Bool) (n : Nat) : (FL (fun m => p m && q m) n).length ≤ (FL q n).length := by
  induction n with
  | zero => exact Nat.le_refl _
  | succ n ih => rw [FL_succ, FL_succ]; cases p n <;> cases q n <;> simp <;> omega
theorem FL_len_eq {p q : Nat → Bool} {n : Nat} : (FL (fun m => p m && q m) n).length = (FL q n).length ↔ ∀ m, m < n → q m = true → p m = true := by
  induction n with
  | zero => simp [FL_zero]
  | succ n ih =>
    have hle := FL_len_le p q n
    rw [FL_succ, FL_succ]
    have key : (∀ m, m < n + 1 → q m = true → p m = true) ↔ (∀ m, m < n → q m = true → p m = true) ∧ (q n = true → p n = true) := by
      constructor
      · intro h
        exact ⟨fun m hm => h m (by omega), h n (by omega)⟩
      · rintro ⟨h1, h2⟩ m hm
        by_cases h : m = n
        · subst h; exact h2
        · exact h1 m (by omega)
    rw [key, ← ih]
    cases p n <;> cases q n <;> simp <;> omega

theorem tb_AND {x y : Int} (i : Nat) : (AND x y).toNat.testBit i = (x.toNat.testBit i && y.toNat.testBit i) := by
  unfold AND
  rw [Int.toNat_natCast, Nat.testBit_and]
theorem AND_eq {x y : Int} (hy : 0 ≤ y) : AND x y = y ↔ ∀ i : Nat, y.toNat.testBit i = true → x.toNat.testBit i = true := by
  constructor
  · intro h i hi
    have := tb_AND (x := x) (y := y) i
    rw [h, hi] at this
    simpa using this.symm
  · intro h
    have : (AND x y).toNat = y.toNat := by
      refine Nat.eq_of_testBit_eq fun i => ?_
      rw [tb_AND]
      cases hy2 : y.toNat.testBit i with
      | false => simp
      | true => simp [h i hy2]
    have h0 : 0 ≤ AND x y := by unfold AND; omega
    omega

set_option linter.unusedVariables false
section
variable {g0 g1 g2 aw ad ap al bw bd bp bl : Int}
theorem RT_both (ha : RT g0 g1 g2 aw ad ap al) (hb : RT g0 g1 g2 bw bd bp bl) (ua : 0 ≤ aw) (va : 0 ≤ ad) (h : MT aw ad ap al bw bd bp bl) :
    RT g0 g1 g2 (AND aw bw) (AND ad bd) (max ap bp) (min (ap + al) (bp + bl) - max ap bp) := by
  obtain ⟨hg, ta, sa, _, la, _, ma⟩ := ha
  obtain ⟨_, tb, sb, _, _, _, _⟩ := hb
  obtain ⟨⟨_, _, n1, n2⟩, h1, h2⟩ := h
  have e1 := AND_le (x := aw) (y := bw) ua
  have e2 := AND_le (x := ad) (y := bd) va
  unfold TM at ta tb
  refine ⟨hg, ?_, by omega, n1, Int.lt_of_le_of_lt e1.2 la, n2, Int.lt_of_le_of_lt e2.2 ma⟩
  unfold TM
  omega
theorem pm_both (ta : TM ap al) (tb : TM bp bl) (h1 : ap < bp + bl) (h2 : bp < ap + al) (D S m : Nat) :
    (pm aw.toNat ad.toNat ap.toNat al.toNat D S m && pm bw.toNat bd.toNat bp.toNat bl.toNat D S m) =
      pm (AND aw bw).toNat (AND ad bd).toNat (max ap bp).toNat (min (ap + al) (bp + bl) - max ap bp).toNat D S m := by
  unfold pm qb
  rw [tb_AND, tb_AND]
  unfold TM at ta tb
  have key : (decide ((max ap bp).toNat ≤ m % S) && decide (m % S < (max ap bp).toNat + (min (ap + al) (bp + bl) - max ap bp).toNat)) =
      ((decide (ap.toNat ≤ m % S) && decide (m % S < ap.toNat + al.toNat)) && (decide (bp.toNat ≤ m % S) && decide (m % S < bp.toNat + bl.toNat))) := by
    rw [Bool.eq_iff_iff]
    simp only [Bool.and_eq_true, decide_eq_true_eq]
    omega
  rw [key]
  cases aw.toNat.testBit (m / S / D) <;> cases bw.toNat.testBit (m / S / D) <;> cases ad.toNat.testBit (m / S % D) <;> cases bd.toNat.testBit (m / S % D) <;>
    cases (decide (ap.toNat ≤ m % S) && decide (m % S < ap.toNat + al.toNat)) <;> cases (decide (bp.toNat ≤ m % S) && decide (m % S < bp.toNat + bl.toNat)) <;> rfl
/-- A bit of each of a time's masks, in the grid. -/
theorem bit_in {x n : Int} (h0 : 0 ≤ x) (hx : x ≠ 0) (hn : x < 2 ^ n.toNat) : ∃ i : Nat, i < n.toNat ∧ x.toNat.testBit i = true := by
  have h1 : x.toNat < 2 ^ n.toNat := by rw [Int.toNat_lt h0]; exact_mod_cast hn
  obtain ⟨i, hi⟩ := Nat.exists_testBit_of_ne_zero (x := x.toNat) (by omega)
  refine ⟨i, ?_, hi⟩
  refine Classical.byContradiction fun hc => ?_
  rw [Nat.testBit_lt_two_pow (Nat.lt_of_lt_of_le h1 (Nat.pow_le_pow_right (by decide) (by omega)))] at hi
  cases hi
theorem bit_lt {x n : Int} (h0 : 0 ≤ x) (hn : x < 2 ^ n.toNat) {i : Nat} (hi : x.toNat.testBit i = true) : i < n.toNat := by
  have h1 : x.toNat < 2 ^ n.toNat := by rw [Int.toNat_lt h0]; exact_mod_cast hn
  refine Classical.byContradiction fun hc => ?_
  rw [Nat.testBit_lt_two_pow (Nat.lt_of_lt_of_le h1 (Nat.pow_le_pow_right (by decide) (by omega)))] at hi
  cases hi
/-- The moment of a week, a day and a slot. -/
theorem moment_at {W D S v d s : Nat} (hv : v < W) (hd : d < D) (hs : s < S) : (v * D + d) * S + s < W * D * S ∧ ((v * D + d) * S + s) / S / D = v ∧ ((v * D + d) * S + s) / S % D = d ∧ ((v * D + d) * S + s) % S = s := by
  have h1 : ((v * D + d) * S + s) / S = v * D + d := by rw [Nat.add_comm, Nat.add_mul_div_right _ _ (by omega), Nat.div_eq_of_lt hs, Nat.zero_add]
  have h2 : v * D + d + 1 ≤ W * D := by
    have := Nat.mul_le_mul_right D (show v + 1 ≤ W by omega)
    rw [Nat.succ_mul] at this
    omega
  have h3 := Nat.mul_le_mul_right S h2
  rw [Nat.succ_mul] at h3
  refine ⟨by omega, ?_, ?_, ?_⟩
  · rw [h1, Nat.add_comm, Nat.add_mul_div_right _ _ (by omega), Nat.div_eq_of_lt hd, Nat.zero_add]
  · rw [h1, Nat.add_comm, Nat.add_mul_mod_self_right, Nat.mod_eq_of_lt hd]
  · rw [Nat.add_comm, Nat.add_mul_mod_self_right, Nat.mod_eq_of_lt hs]
theorem pm_at {wk dy st ln D S v d s W : Nat} (hv : v < W) (hd : d < D) (hs : s < S) : pm wk dy st ln D S ((v * D + d) * S + s) = (wk.testBit v && dy.testBit d && (decide (st ≤ s) && decide (s < st + ln))) := by
  obtain ⟨_, h2, h3, h4⟩ := moment_at hv hd hs
  unfold pm qb
  rw [h2, h3, h4]
theorem MOM_ne (ha : RT g0 g1 g2 aw ad ap al) (ua : 0 ≤ aw) (va : 0 ≤ ad) : 0 < (MOM g0 g1 g2 aw ad ap al).length := by
  have ha' := ha
  obtain ⟨hg, ta, sa, n1, la, n2, ma⟩ := ha'
  obtain ⟨v, hv, bv⟩ := bit_in ua n1 la
  obtain ⟨d, hd, bd'⟩ := bit_in va n2 ma
  unfold RG at hg
  unfold TM at ta
  have hs : ap.toNat < g2.toNat := by omega
  have hm : (((v * g1.toNat + d) * g2.toNat + ap.toNat : Nat) : Int) ∈ MOM g0 g1 g2 aw ad ap al := by
    unfold MOM
    rw [if_pos ha, FL_mem]
    refine ⟨_, (moment_at hv hd hs).1, ?_, rfl⟩
    rw [pm_at hv hd hs, bv, bd']
    simp
    omega
  exact List.length_pos_of_mem hm
/-- The common moments of two times. -/
def COM (g0 g1 g2 aw ad ap al bw bd bp bl : Int) : List Int := (MOM g0 g1 g2 aw ad ap al).filter (fun x => decide (x ∈ MOM g0 g1 g2 bw bd bp bl))
theorem COM_yes (ha : RT g0 g1 g2 aw ad ap al) (hb : RT g0 g1 g2 bw bd bp bl) (ua : 0 ≤ aw) (va : 0 ≤ ad) (h : MT aw ad ap al bw bd bp bl) :
    COM g0 g1 g2 aw ad ap al bw bd bp bl = MOM g0 g1 g2 (AND aw bw) (AND ad bd) (max ap bp) (min (ap + al) (bp + bl) - max ap bp) := by
  unfold COM MOM
  rw [if_pos ha, if_pos hb, if_pos (RT_both ha hb ua va h), FL_filter]
  exact FL_congr fun m _ => pm_both h.1.1 h.1.2.1 h.2.1 h.2.2 _ _ m
theorem COM_no (ha : RT g0 g1 g2 aw ad ap al) (hb : RT g0 g1 g2 bw bd bp bl) (ua : 0 ≤ aw) (va : 0 ≤ ad) (h : ¬ MT aw ad ap al bw bd bp bl) :
    COM g0 g1 g2 aw ad ap al bw bd bp bl = [] := by
  unfold COM MOM
  rw [if_pos ha, if_pos hb, FL_filter]
  have : FL (fun m => pm aw.toNat ad.toNat ap.toNat al.toNat g1.toNat g2.toNat m && pm bw.toNat bd.toNat bp.toNat bl.toNat g1.toNat g2.toNat m) (g0.toNat * g1.toNat * g2.toNat) = FL (fun _ => false) (g0.toNat * g1.toNat * g2.toNat) := by
    refine FL_congr fun m _ => ?_
    rw [Bool.eq_false_iff]
    intro hc
    apply h
    simp only [pm, qb, Bool.and_eq_true, decide_eq_true_eq] at hc
    obtain ⟨⟨⟨h1, h2⟩, h3, h4⟩, ⟨h5, h6⟩, h7, h8⟩ := hc
    have t1 := ha.2.1
    have t2 := hb.2.1
    refine ⟨⟨t1, t2, ?_, ?_⟩, ?_, ?_⟩
    · intro h0
      have := tb_AND (x := aw) (y := bw) (m / g2.toNat / g1.toNat)
      rw [h0, h1, h5] at this
      simp at this
    · intro h0
      have := tb_AND (x := ad) (y := bd) (m / g2.toNat % g1.toNat)
      rw [h0, h2, h6] at this
      simp at this
    · unfold TM at t1 t2; omega
    · unfold TM at t1 t2; omega
  rw [this, FL_false]
theorem COM_len (ha : RT g0 g1 g2 aw ad ap al) (hb : RT g0 g1 g2 bw bd bp bl) (ua : 0 ≤ aw) (va : 0 ≤ ad) (ub : 0 ≤ bw) (vb : 0 ≤ bd) :
    (COM g0 g1 g2 aw ad ap al bw bd bp bl).length = (MOM g0 g1 g2 bw bd bp bl).length ↔
      (MT aw ad ap al bw bd bp bl ∧ AND aw bw = bw ∧ AND ad bd = bd ∧ max ap bp = bp ∧ min (ap + al) (bp + bl) - max ap bp = bl) := by
  constructor
  · intro hl
    have hpos := MOM_ne hb ub vb
    have hmt : MT aw ad ap al bw bd bp bl := by
      refine Classical.byContradiction fun hc => ?_
      rw [COM_no ha hb ua va hc] at hl
      simp at hl
      omega
    refine ⟨hmt, ?_⟩
    have ha' := ha
    have hb' := hb
    unfold COM MOM at hl
    rw [if_pos ha, if_pos hb, FL_filter, FL_len_eq] at hl
    obtain ⟨hg, ta, sa, n1, la, n2, ma⟩ := ha'
    obtain ⟨_, tb, sb, n3, lb, n4, mb⟩ := hb'
    obtain ⟨v, hv, bv⟩ := bit_in ub n3 lb
    obtain ⟨d, hd, bd'⟩ := bit_in vb n4 mb
    unfold RG at hg
    unfold TM at ta tb
    have sub : ∀ v d s : Nat, v < g0.toNat → d < g1.toNat → s < g2.toNat → bw.toNat.testBit v = true → bd.toNat.testBit d = true → bp.toNat ≤ s → s < bp.toNat + bl.toNat →
        aw.toNat.testBit v = true ∧ ad.toNat.testBit d = true ∧ ap.toNat ≤ s ∧ s < ap.toNat + al.toNat := by
      intro v d s hv hd hs h1 h2 h3 h4
      have := hl _ (moment_at hv hd hs).1 (by rw [pm_at hv hd hs, h1, h2]; simp [h3, h4])
      rw [pm_at hv hd hs] at this
      simpa [Bool.and_eq_true, decide_eq_true_eq, and_assoc] using this
    have f1 := sub v d bp.toNat hv hd (by omega) bv bd' (by omega) (by omega)
    have f2 := sub v d (bp.toNat + bl.toNat - 1) hv hd (by omega) bv bd' (by omega) (by omega)
    refine ⟨(AND_eq ub).mpr fun i hi => ?_, (AND_eq vb).mpr fun i hi => ?_, by omega, by omega⟩
    · exact (sub i d bp.toNat (bit_lt ub lb hi) hd (by omega) hi bd' (by omega) (by omega)).1
    · exact (sub v i bp.toNat hv (bit_lt vb mb hi) (by omega) bv hi (by omega) (by omega)).2.1
  · rintro ⟨hmt, h1, h2, h3, h4⟩
    rw [COM_yes ha hb ua va hmt, h1, h2, h4, h3]
end
end Go.Proofs.Ytdbbmnhaiejnjaa.W8
