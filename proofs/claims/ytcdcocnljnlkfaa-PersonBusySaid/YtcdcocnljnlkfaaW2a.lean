/- The moments of a time: what package when's loops and the document's answer come to (plain, over the printed functions). -/
import Derived.Test.YtcdcocnljnlkfaaQ16
import Derived.Test.YtcdcocnljnlkfaaQ17
import Derived.Test.YtcdcocnljnlkfaaQ5
import Derived.Test.YtcdcocnljnlkfaaW1
namespace Go.Proofs.Ytcdcocnljnlkfaa.W2
open Go.RowKit Go.Proofs.YtcdcocnljnlkfaaW.PrintWords Go.Proofs.YtcdcocnljnlkfaaW.PrintLast Go.Proofs.YtcdcocnljnlkfaaW.PrintMore Go.Proofs.Ytcdcocnljnlkfaa.M Go.Proofs.Ytcdcocnljnlkfaa.Q Go.Proofs.Ytcdcocnljnlkfaa.W1

section
variable {W D S wk dy st ln : Nat}

theorem mom_l2 {acc : List Int} {f : Nat} {x6 x15 x16 x20 x21 : Int} {r : List Int} (ha : acc.length ≤ 100000) (hf : f ≤ 100000) (hl : ln ≤ 96) (h : Ev (fun k => when_Moments.l1 k (acc ++ run (f : Int) ln) x6 x15 x16 x20 (wrap64 (x21 + 1)) W D S wk dy st ln) r) (d : Nat) :
    ∀ i : Nat, i ≤ ln → ln - i = d → Ev (fun k => when_Moments.l2 k (acc ++ run (f : Int) i) x6 (f : Int) x15 x16 x20 x21 (ln : Int) (i : Int) W D S wk dy st ln) r := by
  induction d with
  | zero =>
    intro i hi hd
    have hi2 : i = ln := by omega
    subst hi2
    refine Ev.step (fun k => ?_) h
    simp only [when_Moments.l2]
    rw [if_neg (Int.lt_irrefl _)]
  | succ d ih =>
    intro i hi hd
    have hlt : i < ln := by omega
    have h1 : (i : Int) < (ln : Int) := by omega
    have h2 : (acc ++ run (f : Int) i).length < 17592186044416 := by rw [List.length_append, run_len]; omega
    have h3 : wrap64 ((f : Int) + i) = (f : Int) + i := w64 (by omega) (by omega)
    have h4 := w64s (n := i) (by omega)
    refine Ev.step (fun k => ?_) (ih (i + 1) (by omega) (by omega))
    simp only [when_Moments.l2]
    rw [if_pos h1, if_pos h2, h3, h4, run_succ, List.append_assoc]
theorem from_eq {v d : Nat} (h1 : v * D ≤ 200) (h2 : d ≤ 10) (h3 : (v * D + d) * S ≤ 20000) (h4 : st ≤ 100) : wrap64 ((wrap64 ((wrap64 ((wrap64 ((v : Int) * D)) + d)) * S)) + st) = (((v * D + d) * S + st : Nat) : Int) := by
  have e1 : (v : Int) * D = ((v * D : Nat) : Int) := by push_cast; rfl
  have e2 : wrap64 ((v * D : Nat) : Int) = ((v * D : Nat) : Int) := w64 (by omega) (by omega)
  have e3 : ((v * D : Nat) : Int) + d = ((v * D + d : Nat) : Int) := by push_cast; rfl
  have e4 : wrap64 ((v * D + d : Nat) : Int) = ((v * D + d : Nat) : Int) := w64 (by omega) (by omega)
  have e5 : ((v * D + d : Nat) : Int) * S = (((v * D + d) * S : Nat) : Int) := by push_cast; rfl
  have e6 : wrap64 (((v * D + d) * S : Nat) : Int) = (((v * D + d) * S : Nat) : Int) := w64 (by omega) (by omega)
  have e7 : (((v * D + d) * S : Nat) : Int) + st = (((v * D + d) * S + st : Nat) : Int) := by push_cast; rfl
  rw [e1, e2, e3, e4, e5, e6, e7]
  exact w64 (by omega) (by omega)
theorem qb_at {v d : Nat} (hlt : d < D) : qb wk dy D (v * D + d) = (wk.testBit v && dy.testBit d) := by
  unfold qb
  rw [show (v * D + d) / D = v by rw [Nat.add_comm, Nat.add_mul_div_right _ _ (by omega), Nat.div_eq_of_lt hlt, Nat.zero_add], show (v * D + d) % D = d by rw [Nat.add_comm, Nat.add_mul_mod_self_right, Nat.mod_eq_of_lt hlt]]
theorem bit_wk (hwk : wk < 4294967296) (v : Nat) : Go.bits .and .u32 (shr .u32 (wk : Int) (v : Int)) 1 = if wk.testBit v = true then 1 else 0 := by
  have b0 := bit_u32 (x := (wk : Int)) (i := (v : Int)) (Int.natCast_nonneg _) (by omega) (Int.natCast_nonneg _)
  rw [tb_nat] at b0
  exact b0
theorem bit_dy (hdy : dy < 256) (v : Nat) : Go.bits .and .u8 (shr .u8 (dy : Int) (v : Int)) 1 = if dy.testBit v = true then 1 else 0 := by
  have b0 := bit_u8 (x := (dy : Int)) (i := (v : Int)) (Int.natCast_nonneg _) (by omega) (Int.natCast_nonneg _)
  rw [tb_nat] at b0
  exact b0
theorem mom_l1 (hg : RG W D S) (ht : TM st ln) (hs : st + ln ≤ S) (hwk : wk < 4294967296) (hdy : dy < 256) {v : Nat} (hv : v < W) {r : List Int}
    (h : Ev (fun k => when_Moments.l0 k (FL (pm wk dy st ln D S) ((v + 1) * D * S)) W ((v + 1 : Nat) : Int) W D S wk dy st ln) r) (e : Nat) :
    ∀ d : Nat, d ≤ D → D - d = e → Ev (fun k => when_Moments.l1 k (FL (pm wk dy st ln D S) ((v * D + d) * S)) v W v D d W D S wk dy st ln) r := by
  have B0' := Aside0.mk (bit_wk hwk v)
  have B1 := Aside0.mk (bit_dy hdy)
  clear hwk hdy
  unfold RG at hg
  unfold TM at ht
  have n0 : (0 : Int) ≤ (v : Int) := Int.natCast_nonneg _
  induction e with
  | zero =>
    intro d hd he
    have hd2 : d = D := by omega
    subst hd2
    have h4 := w64s (n := v) (by omega)
    have h5 : (v * d + d) * S = (v + 1) * d * S := by rw [Nat.succ_mul]
    refine Ev.step (fun k => ?_) h
    simp only [when_Moments.l1]
    rw [if_neg (Int.lt_irrefl _), h4, h5]
  | succ e ih =>
    intro d hd he
    have hlt : d < D := by omega
    have hlti : (d : Int) < (D : Int) := by omega
    have n1 : (0 : Int) ≤ (d : Int) := Int.natCast_nonneg _
    have hvD : v * D ≤ 19 * 7 := Nat.mul_le_mul (by omega) (by omega)
    have hbS : (v * D + d) * S ≤ 139 * 96 := Nat.mul_le_mul (by omega) (by omega)
    have hq := qb_at (wk := wk) (dy := dy) (v := v) hlt
    have hblk := FL_block wk dy st ln D S (v * D + d) (by omega) hs
    have h6 : (v * D + d) * S + S = (v * D + (d + 1)) * S := by rw [← Nat.succ_mul, ← Nat.add_assoc]
    rw [h6] at hblk
    have hw' := Aside0.mk (w64s (n := d) (by omega))
    have next := ih (d + 1) (by omega) (by omega)
    have hfrom := Aside0.mk (from_eq (D := D) (S := S) (st := st) (v := v) (d := d) (by omega) (by omega) (by omega) (by omega))
    have m2 := fun x15 x16 x20 x21 r => mom_l2 (W := W) (D := D) (S := S) (wk := wk) (dy := dy) (st := st) (r := r) (x6 := (v : Int)) (x15 := x15) (x16 := x16) (x20 := x20) (x21 := x21) (f := (v * D + d) * S + st) (Nat.le_trans (FL_len (pm wk dy st ln D S) ((v * D + d) * S)) (by omega)) (by omega) (show ln ≤ 96 by omega)
    rw [hblk, hq] at next
    clear hblk h6
    have b1 := B1.out d
    have B0 := B0'.out
    have hw := hw'.out
    cases c0 : wk.testBit v with
    | false =>
      rw [c0] at next B0
      simp only [Bool.false_and, Bool.false_eq_true, if_false, List.append_nil] at next B0
      refine Ev.step (f := fun k => when_Moments.j2 k (FL (pm wk dy st ln D S) ((v * D + d) * S)) v d W v D d true W D S wk dy st ln) (fun k => ?_) (Ev.step (fun k => ?_) next)
      · simp only [when_Moments.l1]
        rw [if_pos hlti, if_pos n0, if_pos B0]
      · simp only [when_Moments.j2]
        rw [if_pos trivial, hw]
    | true =>
      rw [c0] at next B0
      simp only [Bool.true_and, if_true] at next B0
      cases c1 : dy.testBit d with
      | false =>
        rw [c1] at next b1
        simp only [Bool.false_eq_true, if_false, List.append_nil] at next b1
        refine Ev.step (f := fun k => when_Moments.j2 k (FL (pm wk dy st ln D S) ((v * D + d) * S)) v d W v D d true W D S wk dy st ln) (fun k => ?_) (Ev.step (fun k => ?_) next)
        · simp only [when_Moments.l1]
          rw [if_pos hlti, if_pos n0, B0, b1, if_neg (by decide), if_pos n1, show ((0 : Int) == 0) = true from rfl]
        · simp only [when_Moments.j2]
          rw [if_pos trivial, hw]
      | true =>
        rw [c1] at next b1
        simp only [if_true] at next b1
        rw [← hw] at next
        have l2 := m2 _ _ _ _ _ next _ 0 (Nat.zero_le _) rfl
        have h0 : FL (pm wk dy st ln D S) ((v * D + d) * S) ++ run (((v * D + d) * S + st : Nat) : Int) 0 = FL (pm wk dy st ln D S) ((v * D + d) * S) := by rw [run_zero, List.append_nil]
        rw [h0] at l2
        refine Ev.step (f := fun k => when_Moments.j2 k (FL (pm wk dy st ln D S) ((v * D + d) * S)) v d W v D d false W D S wk dy st ln) (fun k => ?_) (Ev.step (fun k => ?_) l2)
        · simp only [when_Moments.l1]
          rw [if_pos hlti, if_pos n0, B0, b1, if_neg (by decide), if_pos n1, show ((1 : Int) == 0) = false from rfl]
        · simp only [when_Moments.j2]
          rw [if_neg (by decide), hfrom.out, Int.natCast_zero]
theorem mom_l0 (hg : RG W D S) (ht : TM st ln) (hs : st + ln ≤ S) (hwk : wk < 4294967296) (hdy : dy < 256) (e : Nat) :
    ∀ v : Nat, v ≤ W → W - v = e → Ev (fun k => when_Moments.l0 k (FL (pm wk dy st ln D S) (v * D * S)) W v W D S wk dy st ln) (FL (pm wk dy st ln D S) (W * D * S)) := by
  induction e with
  | zero =>
    intro v hv he
    have hv2 : v = W := by omega
    subst hv2
    refine Ev.step (f := fun _ => some _) (fun k => ?_) (Ev.now _)
    simp only [when_Moments.l0]
    rw [if_neg (Int.lt_irrefl _)]
  | succ e ih =>
    intro v hv he
    have hlt : (v : Int) < (W : Int) := by omega
    have l1 := mom_l1 hg ht hs hwk hdy (v := v) (by omega) (ih (v + 1) (by omega) (by omega)) _ 0 (Nat.zero_le _) rfl
    rw [Nat.add_zero] at l1
    refine Ev.step (fun k => ?_) l1
    simp only [when_Moments.l0]
    rw [if_pos hlt, Int.natCast_zero]
end
/-- The moments of a time, as a row of numbers. -/
def MOM (g0 g1 g2 w0 w1 w2 w3 : Int) : List Int :=
  if RT g0 g1 g2 w0 w1 w2 w3 then FL (pm w0.toNat w1.toNat w2.toNat w3.toNat g1.toNat g2.toNat) (g0.toNat * g1.toNat * g2.toNat) else []
theorem nat_of {x : Int} (h : 0 ≤ x) : ∃ n : Nat, x = (n : Int) := ⟨x.toNat, by omega⟩
theorem when_Moments_f {g0 g1 g2 w0 w1 w2 w3 : Int} (u0 : 0 ≤ w0 ∧ w0 < 4294967296) (u1 : 0 ≤ w1 ∧ w1 < 256) :
    Ev (fun k => when_Moments.f k g0 g1 g2 w0 w1 w2 w3) (MOM g0 g1 g2 w0 w1 w2 w3) := by
  unfold when_Moments.f MOM
  simp only [when_Right_f u0 u1, Option.bind_some, decide_eq_true_eq]
  by_cases h : RT g0 g1 g2 w0 w1 w2 w3
  · simp only [if_pos h]
    obtain ⟨hg, ht, hs, _, _, _, _⟩ := h
    have hg' := hg
    have ht' := ht
    unfold RG at hg'
    unfold TM at ht'
    obtain ⟨W, rfl⟩ := nat_of (show 0 ≤ g0 by omega)
    obtain ⟨D, rfl⟩ := nat_of (show 0 ≤ g1 by omega)
    obtain ⟨S, rfl⟩ := nat_of (show 0 ≤ g2 by omega)
    obtain ⟨wk, rfl⟩ := nat_of u0.1
    obtain ⟨dy, rfl⟩ := nat_of u1.1
    obtain ⟨st, rfl⟩ := nat_of (show 0 ≤ w2 by omega)
    obtain ⟨ln, rfl⟩ := nat_of (show 0 ≤ w3 by omega)
    have := mom_l0 hg ht (by omega) (by omega) (by omega) _ 0 (Nat.zero_le _) rfl (wk := wk) (dy := dy)
    simp only [Nat.zero_mul, FL_zero] at this
    exact this
  · simp only [if_neg h]
    exact Ev.now _

/-! ### The document's answer -/
section
variable {W D S wk dy st ln : Nat}
theorem Of_f (hg : RG W D S) {m : Nat} (hm : m < W * D * S) : horariumref09_Of.f W D S m = some (((m / S / D : Nat) : Int), ((m / S % D : Nat) : Int), ((m % S : Nat) : Int), true) := by
  have hg' := hg
  unfold RG at hg'
  unfold horariumref09_Of.f
  rw [ref_All_f, if_pos hg, Option.bind_some]
  have e1 : (W : Int) * D * S = ((W * D * S : Nat) : Int) := by push_cast; rfl
  have hb : W * D * S ≤ 20 * 7 * 96 := Nat.mul_le_mul (Nat.mul_le_mul (by omega) (by omega)) (by omega)
  have q1 : m / S ≤ m := Nat.div_le_self _ _
  have q2 : m / S / D ≤ m / S := Nat.div_le_self _ _
  have n0 : ¬ (m : Int) < 0 := by omega
  have n1 : ¬ (m : Int) ≥ ((W * D * S : Nat) : Int) := by omega
  have n2 : ¬ (S : Int) = 0 := by omega
  have n3 : ¬ (D : Int) = 0 := by omega
  have r1 := Aside0.mk (w64n (m / S) (Nat.lt_of_le_of_lt q1 (by omega)))
  have r2 := Aside0.mk (w64n (m / S / D) (Nat.lt_of_le_of_lt (Nat.le_trans q2 q1) (by omega)))
  have t1 : Int.tdiv (m : Int) S = ((m / S : Nat) : Int) := by rw [Int.tdiv_eq_ediv_of_nonneg (Int.natCast_nonneg _)]; rfl
  have t2 : Int.tdiv ((m / S : Nat) : Int) D = ((m / S / D : Nat) : Int) := by rw [Int.tdiv_eq_ediv_of_nonneg (Int.natCast_nonneg _)]; rfl
  have t3 : Int.tmod ((m / S : Nat) : Int) D = ((m / S % D : Nat) : Int) := by rw [Int.tmod_eq_emod_of_nonneg (Int.natCast_nonneg _)]; rfl
  have t4 : Int.tmod (m : Int) S = ((m % S : Nat) : Int) := by rw [Int.tmod_eq_emod_of_nonneg (Int.natCast_nonneg _)]; rfl
  rw [if_neg n0, e1, if_neg n1, if_neg n2, if_neg n3, t1, r1.out, t2, r2.out, t3, t4]
theorem On_f (hwk : wk < 4294967296) (hdy : dy < 256) (ht : TM st ln) {a b c : Nat} (ha : a < 32) (hb : b < 8) :
    Ev (fun k => horariumref09_On.f k wk dy st ln a b c) (wk.testBit a && dy.testBit b && (decide (st ≤ c) && decide (c < st + ln))) := by
  have ht' := ht
  unfold TM at ht'
  unfold horariumref09_On.f
  simp only [ref_Tame_f, Option.bind_some, decide_eq_true_eq, if_pos ht]
  have m0 : ¬ (a : Int) < 0 := by omega
  have m1 : ¬ (a : Int) > 31 := by omega
  have m2 : ¬ (b : Int) < 0 := by omega
  have m3 : decide ((b : Int) > 7) = false := decide_eq_false (by omega)
  have hm : ((dy : Int) % 4294967296) = dy := by omega
  have b0' := Aside0.mk (ref_bit_f (x := (wk : Int)) (i := (a : Int)) ⟨by omega, by omega⟩ ⟨by omega, by omega⟩)
  have b1' := Aside0.mk (ref_bit_f (x := (dy : Int)) (i := (b : Int)) ⟨by omega, by omega⟩ ⟨by omega, by omega⟩)
  have hw' := Aside0.mk (w64 (n := (st : Int) + ln) (by omega) (by omega))
  have h2 : ((c : Int) < (st : Int) + ln) ↔ c < st + ln := by omega
  have h3 : (c : Int) ≥ (st : Int) ↔ st ≤ c := by omega
  have b0 := b0'.out
  have b1 := b1'.out
  have hw := hw'.out
  rw [tb_nat] at b0 b1
  simp only [if_neg m0, if_neg m1, if_neg m2, m3]
  refine Ev.step (f := fun _ => some _) (fun k => ?_) (Ev.now _)
  simp only [horariumref09_On.j0]
  rw [if_neg (by decide), hm, b0, b1, Option.bind_some, Option.bind_some, hw]
  cases wk.testBit a with
  | false => rw [if_neg (by decide)]; rfl
  | true =>
    cases dy.testBit b with
    | false => rw [if_pos rfl, if_neg (by decide)]; rfl
    | true =>
      rw [if_pos rfl, if_pos rfl]
      by_cases h : st ≤ c
      · rw [if_pos (h3.mpr h)]
        simp only [h2, h, decide_true, Bool.true_and]
      · rw [if_neg (fun h4 => h (h3.mp h4))]
        simp only [h, decide_false, Bool.false_and, Bool.true_and]
end
end Go.Proofs.Ytcdcocnljnlkfaa.W2
