/- The law PersonBusy, over numbers alone. -/
import Derived.Test.YtcdcocnljnlkfaaQ34
import Derived.Test.YtcdcocnljnlkfaaP2
import Derived.Test.YtcdcocnljnlkfaaW9a
set_option linter.unusedVariables false
set_option linter.unusedSimpArgs false
namespace Go.Proofs.Ytcdcocnljnlkfaa.Pure
open Go.RowKit Go.Proofs.YtcdcocnljnlkfaaW.PrintWords Go.Proofs.YtcdcocnljnlkfaaW.PrintLast Go.Proofs.YtcdcocnljnlkfaaW.PrintMore Go.Proofs.Ytcdcocnljnlkfaa.M Go.Proofs.Ytcdcocnljnlkfaa.Q Go.Proofs.Ytcdcocnljnlkfaa.L1 Go.Proofs.Ytcdcocnljnlkfaa.L2 Go.Proofs.Ytcdcocnljnlkfaa.P1 Go.Proofs.Ytcdcocnljnlkfaa.P2 Go.Proofs.Ytcdcocnljnlkfaa.W1 Go.Proofs.Ytcdcocnljnlkfaa.W2 Go.Proofs.Ytcdcocnljnlkfaa.W4 Go.Proofs.Ytcdcocnljnlkfaa.W9
theorem heads_ev : Ev (fun k => horariumlaw12_heads.f k) true := Ev.of (fun k => horariumlaw12_heads.mono k) (k := 60) (by decide +kernel)
/-! ### How many moments a time has -/
theorem pc_top {a m : Nat} (h : a < 2 ^ m) (n : Nat) : m ≤ n → pc a n = pc a m := by
  induction n with
  | zero => intro hm; obtain rfl : m = 0 := by omega
            rfl
  | succ n ih =>
    intro hm
    by_cases e : m = n + 1
    · rw [e]
    · have hb : a.testBit n = false := Nat.testBit_lt_two_pow (Nat.lt_of_lt_of_le h (Nat.pow_le_pow_right (by decide) (by omega)))
      rw [pc, hb, ih (by omega)]
      simp
theorem FL_pm_len (wk dy st ln D S : Nat) (hS : 0 < S) (h : st + ln ≤ S) (B : Nat) : (FL (pm wk dy st ln D S) (B * S)).length = CN (qb wk dy D) B * ln := by
  induction B with
  | zero => simp [FL_zero, CN]
  | succ B ih =>
    rw [Nat.succ_mul, FL_block _ _ _ _ _ _ _ hS h, List.length_append, ih, CN, Nat.add_mul]
    cases qb wk dy D B with
    | true => simp [run_len]
    | false => simp
theorem CN_qb_row (wk dy D v : Nat) (hD : 0 < D) (d : Nat) (hd : d ≤ D) : CN (qb wk dy D) (v * D + d) = CN (qb wk dy D) (v * D) + if wk.testBit v = true then pc dy d else 0 := by
  induction d with
  | zero => simp [pc]
  | succ d ih =>
    rw [← Nat.add_assoc, CN, ih (by omega), pc]
    have e1 : (v * D + d) / D = v := by rw [Nat.add_comm, Nat.add_mul_div_right _ _ hD, Nat.div_eq_of_lt (by omega), Nat.zero_add]
    have e2 : (v * D + d) % D = d := by rw [Nat.add_comm, Nat.add_mul_mod_self_right, Nat.mod_eq_of_lt (by omega)]
    unfold qb
    rw [e1, e2]
    cases wk.testBit v <;> cases dy.testBit d <;> simp <;> omega
theorem CN_qb (wk dy D : Nat) (hD : 0 < D) (v : Nat) : CN (qb wk dy D) (v * D) = pc wk v * pc dy D := by
  induction v with
  | zero => simp [CN, pc]
  | succ v ih =>
    rw [Nat.succ_mul, CN_qb_row wk dy D v hD D (Nat.le_refl _), ih, pc, Nat.add_mul]
    cases wk.testBit v <;> simp
theorem MOM_count {g0 g1 g2 w0 w1 w2 w3 : Int} (u0 : 0 ≤ w0) (u1 : 0 ≤ w1) (h : RT g0 g1 g2 w0 w1 w2 w3) : ((MOM g0 g1 g2 w0 w1 w2 w3).length : Int) = CNT w0 w1 w2 w3 := by
  have h' := h
  obtain ⟨hg, ht, hs, _, la, _, ma⟩ := h'
  have hg' := hg
  have ht' := ht
  unfold RG at hg'
  unfold TM at ht'
  have l1 : w0.toNat < 2 ^ g0.toNat := by rw [Int.toNat_lt u0]; exact_mod_cast la
  have l2 : w1.toNat < 2 ^ g1.toNat := by rw [Int.toNat_lt u1]; exact_mod_cast ma
  have p1 := pc_le w0.toNat g0.toNat
  have p2 := pc_le w1.toNat g1.toNat
  unfold MOM CNT
  rw [if_pos h, if_pos ht, FL_pm_len _ _ _ _ _ _ (by omega) (by omega), CN_qb _ _ _ (by omega), pc_top l1 32 (by omega), pc_top l2 32 (by omega)]
  obtain ⟨ln, rfl⟩ := nat_of (show 0 ≤ w3 by omega)
  have b1 : pc w0.toNat g0.toNat * pc w1.toNat g1.toNat ≤ 140 := Nat.le_trans (Nat.mul_le_mul (show _ ≤ 20 by omega) (show _ ≤ 7 by omega)) (by decide)
  have b2 : pc w0.toNat g0.toNat * pc w1.toNat g1.toNat * ln ≤ 13440 := Nat.le_trans (Nat.mul_le_mul b1 (show ln ≤ 96 by omega)) (by decide)
  rw [← Int.natCast_mul, w64n _ (by omega), ← Int.natCast_mul, w64n _ (by omega), Int.toNat_natCast]
theorem sum_bound : ∀ {A : List Int}, (∀ x ∈ A, 0 ≤ x ∧ x ≤ 96) → 0 ≤ A.sum ∧ A.sum ≤ 96 * (A.length : Int)
  | [], _ => by simp
  | x :: A, h => by
    have h1 := h x (List.mem_cons_self ..)
    have h2 := sum_bound fun y hy => h y (List.mem_cons_of_mem _ hy)
    rw [List.sum_cons, List.length_cons]
    omega
section
variable {g0 g1 g2 w0 w1 w2 w3 : Int}
theorem BUSY_cells (l : List S27) : (BUSY l g0 g1 g2).length ≤ 140 ∧ ∀ x ∈ BUSY l g0 g1 g2, 0 ≤ x ∧ x ≤ 96 := by
  unfold BUSY
  split
  · rename_i h
    obtain ⟨b1, b2⟩ := RG_nat h
    refine ⟨by rw [List.length_map, List.length_range]; exact b1, fun x hx => ?_⟩
    obtain ⟨d, _, rfl⟩ := List.mem_map.mp hx
    have := CN_le (fun s => HIT l g0 g1 g2 (d * g2.toNat + s)) g2.toNat
    omega
  · exact ⟨by simp, fun x hx => by simp at hx⟩
theorem BUSY_sum : (BUSY [(⟨w0, w1, w2, w3⟩ : S27), ⟨w0, w1, w2, w3⟩] g0 g1 g2).sum = ((MOM g0 g1 g2 w0 w1 w2 w3).length : Int) := by
  unfold BUSY
  by_cases hg : RG g0 g1 g2
  · rw [if_pos hg, CN_sum (HIT [(⟨w0, w1, w2, w3⟩ : S27), ⟨w0, w1, w2, w3⟩] g0 g1 g2)]
    unfold MOM
    by_cases h : RT g0 g1 g2 w0 w1 w2 w3
    · rw [if_pos h]
      congr 2
      refine FL_congr fun m hm => ?_
      unfold HIT MOMx
      simp only [List.any_cons, List.any_nil, Bool.or_false, Bool.or_self]
      unfold MOM
      rw [if_pos h]
      refine Bool.eq_iff_iff.mpr ?_
      rw [decide_eq_true_eq, FL_mem]
      constructor
      · rintro ⟨j, _, hp, hj⟩
        obtain rfl : m = j := by omega
        exact hp
      · exact fun hp => ⟨m, hm, hp, rfl⟩
    · rw [if_neg h]
      have : FL (HIT [(⟨w0, w1, w2, w3⟩ : S27), ⟨w0, w1, w2, w3⟩] g0 g1 g2) (g0.toNat * g1.toNat * g2.toNat) = FL (fun _ => false) (g0.toNat * g1.toNat * g2.toNat) := by
        refine FL_congr fun m hm => ?_
        unfold HIT MOMx
        simp only [List.any_cons, List.any_nil, Bool.or_false, Bool.or_self]
        unfold MOM
        rw [if_neg h]
        simp
      rw [this, FL_false]
  · have h : ¬ RT g0 g1 g2 w0 w1 w2 w3 := fun h => hg h.1
    unfold MOM
    rw [if_neg hg, if_neg h]
    rfl
end
theorem PersonBusy : ∀ (a0_0 : Int) (a0_1 : Int) (a0_2 : Int) (a1_0 : Int) (a1_1 : Int) (a1_2 : Int) (a1_3 : Int), (Lit.int .i64 a0_0).wf = true → (Lit.int .i64 a0_1).wf = true → (Lit.int .i64 a0_2).wf = true → (Lit.int .u32 a1_0).wf = true → (Lit.int .u8 a1_1).wf = true → (Lit.int .i64 a1_2).wf = true → (Lit.int .i64 a1_3).wf = true → ∃ k, horariumlaw12_PersonBusy.f k a0_0 a0_1 a0_2 a1_0 a1_1 a1_2 a1_3 = some true := by
  intro g0 g1 g2 w0 w1 w2 w3 _ _ _ v0 v1 _ v3
  replace v0 := wf_u32 v0
  replace v1 := wf_u8 v1
  replace v3 := wf_i64 v3
  refine Ev.rounds ?_
  unfold horariumlaw12_PersonBusy.f
  have hv : GV [(⟨w0, w1, w2, w3⟩ : S27), ⟨w0, w1, w2, w3⟩] := by
    intro x hx
    simp only [List.mem_cons, List.not_mem_nil, or_false, or_self] at hx
    subst hx
    exact ⟨v0, v1, v3⟩
  refine Ev.bind (Busy_f (by simp) hv) ?_
  obtain ⟨hb1, hb2⟩ := BUSY_cells (g0 := g0) (g1 := g1) (g2 := g2) [(⟨w0, w1, w2, w3⟩ : S27), ⟨w0, w1, w2, w3⟩]
  have hsum := BUSY_sum (g0 := g0) (g1 := g1) (g2 := g2) (w0 := w0) (w1 := w1) (w2 := w2) (w3 := w3)
  generalize BUSY [(⟨w0, w1, w2, w3⟩ : S27), ⟨w0, w1, w2, w3⟩] g0 g1 g2 = A at hb1 hb2 hsum
  refine loop_inv (L := fun k (n : Int) (i : Int) => horariumlaw12_PersonBusy.l0 k A n i g0 g1 g2 w0 w1 w2 w3) (n := A.length) (fun i => (A.take i).sum) ?_ _ ?_
  · intro i hi r h
    have hs := sum_bound (A := A.take i) fun x hx => hb2 x (List.mem_of_mem_take hx)
    have hget : rd A (i : Int) = A[i] := by rw [rd_nat, List.getD_eq_getElem?_getD, List.getElem?_eq_getElem hi]; rfl
    have hc := hb2 _ (List.getElem_mem hi)
    have e : (A.take (i + 1)).sum = (A.take i).sum + A[i] := by rw [List.take_add_one, List.getElem?_eq_getElem hi, List.sum_append]; simp
    rw [List.length_take] at hs
    rw [e] at h
    have t1 := Aside0.mk (w64 (n := (A.take i).sum + A[i]) (by omega) (by omega))
    have t2 := Aside0.mk (w64s (n := i) (by omega))
    refine Ev.step (fun k => ?_) h
    simp only [horariumlaw12_PersonBusy.l0]
    rw [hget, t1.out, t2.out, if_pos (by omega), if_pos (by omega)]
  · rw [List.take_length, hsum]
    refine Ev.step (f := fun k => (horariumref09_Right.f k g0 g1 g2 w0 w1 w2 w3).bind fun t416 => (if t416 = true then ((horariumref09_Count.f k w0 w1 w2 w3).bind fun t417 => (if ((MOM g0 g1 g2 w0 w1 w2 w3).length : Int) = t417 then ((horariumlaw12_heads.f k).bind fun t418 => (some t418)) else (some false))) else (if ((MOM g0 g1 g2 w0 w1 w2 w3).length : Int) = 0 then ((horariumlaw12_heads.f k).bind fun t419 => (some t419)) else (some false)))) (fun k => ?_) (Ev.bind (ref_Right_f v0 v1 v3) ?_)
    · simp only [horariumlaw12_PersonBusy.l0]
      rw [if_neg (by omega)]
    · simp only [decide_eq_true_eq]
      by_cases h : RT g0 g1 g2 w0 w1 w2 w3
      · simp only [if_pos h]
        refine Ev.bind (ref_Count_f v0 v1) ?_
        simp only [if_pos (MOM_count v0.1 v1.1 h)]
        exact Ev.bind heads_ev (Ev.now _)
      · have e : ((MOM g0 g1 g2 w0 w1 w2 w3).length : Int) = 0 := by unfold MOM; rw [if_neg h]; rfl
        simp only [if_neg h, if_pos e]
        exact Ev.bind heads_ev (Ev.now _)
end Go.Proofs.Ytcdcocnljnlkfaa.Pure
