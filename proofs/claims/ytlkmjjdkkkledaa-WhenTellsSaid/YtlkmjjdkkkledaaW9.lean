/- How many moments a time has, by package when and by the document's answer (plain, over the printed functions). -/
import Derived.Test.YtlkmjjdkkkledaaQ10
import Derived.Test.YtlkmjjdkkkledaaQ11
import Derived.Test.YtlkmjjdkkkledaaW1
namespace Go.Proofs.Ytlkmjjdkkkledaa.W9
open Go.RowKit Go.Proofs.YtlkmjjdkkkledaaW.PrintWords Go.Proofs.YtlkmjjdkkkledaaW.PrintLast Go.Proofs.YtlkmjjdkkkledaaW.PrintMore Go.Proofs.Ytlkmjjdkkkledaa.M Go.Proofs.Ytlkmjjdkkkledaa.Q Go.Proofs.Ytlkmjjdkkkledaa.W1
theorem when_ones_l0 (d : Nat) : ∀ a c : Nat, a < 4294967296 → pc a 32 = d → c + d ≤ 1000 → Ev (fun k => when_ones.l0 k a c) ((c + d : Nat) : Int) := by
  induction d with
  | zero =>
    intro a c ha hd _
    have h0 : a = 0 := by
      refine Classical.byContradiction fun hc => ?_
      have := pc_pred 32 a (by omega) (by omega)
      omega
    refine Ev.step (f := fun _ => some _) (fun k => ?_) (Ev.now _)
    simp only [when_ones.l0]
    rw [h0, Int.natCast_zero, if_pos rfl, Nat.add_zero]
  | succ d ih =>
    intro a c ha hd hc
    have h0 : a ≠ 0 := by rintro rfl; rw [pc_zero] at hd; omega
    have h1 := pc_pred 32 a (by omega) (by omega)
    have hlt := and_pred_lt (a := a) (by omega)
    have next := ih (a &&& (a - 1)) (c + 1) (by omega) (by omega) (by omega)
    have e1 : ((a : Int) - 1) % 4294967296 = ((a - 1 : Nat) : Int) := by omega
    have hn : ¬ (a : Int) = 0 := by omega
    have e2 := and_u32 (a := a) (b := a - 1) ha (by omega)
    have e3 := w64s (n := c) (by omega)
    have e4 : c + 1 + d = c + (d + 1) := by omega
    rw [e4] at next
    refine Ev.step (fun k => ?_) next
    simp only [when_ones.l0]
    rw [if_neg hn, e1, e2, e3]
theorem when_ones_f {x : Int} (u : 0 ≤ x ∧ x < 4294967296) : Ev (fun k => when_ones.f k x) ((pc x.toNat 32 : Nat) : Int) := by
  obtain ⟨a, rfl⟩ := Int.eq_ofNat_of_zero_le u.1
  have hp := pc_le a 32
  have := when_ones_l0 (pc a 32) a 0 (by omega) rfl (by omega)
  rw [Nat.zero_add] at this
  exact this
theorem ref_ones_l0 {a : Nat} (ha : a < 4294967296) (d : Nat) : ∀ i : Nat, i ≤ 32 → 32 - i = d → Ev (fun k => horariumref09_ones.l0 k a (pc a i : Nat) i) ((pc a 32 : Nat) : Int) := by
  induction d with
  | zero =>
    intro i hi hd
    have hi2 : i = 32 := by omega
    subst hi2
    refine Ev.step (f := fun _ => some _) (fun k => ?_) (Ev.now _)
    simp only [horariumref09_ones.l0]
    rw [if_neg (by decide)]
  | succ d ih =>
    intro i hi hd
    have h1 : (i : Int) < 32 := by omega
    have hp := pc_le a i
    have hb := Aside0.mk (ref_bit_f (x := (a : Int)) (i := (i : Int)) ⟨by omega, by omega⟩ ⟨by omega, by omega⟩)
    have e1 := Aside0.mk (w64s (n := i) (by omega))
    have e2 := Aside0.mk (w64s (n := pc a i) (by omega))
    have next := ih (i + 1) (by omega) (by omega)
    refine Ev.step (fun k => ?_) next
    simp only [horariumref09_ones.l0]
    rw [if_pos h1, hb.out, Option.bind_some, tb_nat, e1.out, e2.out]
    show _ = horariumref09_ones.l0 k a ((pc a i + if a.testBit i = true then 1 else 0 : Nat) : Int) _
    cases a.testBit i <;> rfl
theorem ref_ones_f {x : Int} (u : 0 ≤ x ∧ x < 4294967296) : Ev (fun k => horariumref09_ones.f k x) ((pc x.toNat 32 : Nat) : Int) := by
  obtain ⟨a, rfl⟩ := Int.eq_ofNat_of_zero_le u.1
  exact ref_ones_l0 (a := a) (by omega) _ 0 (by omega) rfl
/-- How many moments a time has. -/
def CNT (w0 w1 w2 w3 : Int) : Int := if TM w2 w3 then wrap64 (wrap64 (((pc w0.toNat 32 : Nat) : Int) * ((pc w1.toNat 32 : Nat) : Int)) * w3) else 0
theorem when_Count_f {w0 w1 w2 w3 : Int} (u0 : 0 ≤ w0 ∧ w0 < 4294967296) (u1 : 0 ≤ w1 ∧ w1 < 256) : Ev (fun k => when_Count.f k w0 w1 w2 w3) (CNT w0 w1 w2 w3) := by
  unfold when_Count.f CNT
  have hm : w1 % 4294967296 = w1 := by omega
  simp only [when_tame_f, Option.bind_some, decide_eq_true_eq, hm]
  by_cases h : TM w2 w3
  · simp only [if_pos h]
    exact Ev.bind (when_ones_f u0) (Ev.bind (when_ones_f ⟨u1.1, by omega⟩) (Ev.now _))
  · simp only [if_neg h]
    exact Ev.now _
theorem ref_Count_f {w0 w1 w2 w3 : Int} (u0 : 0 ≤ w0 ∧ w0 < 4294967296) (u1 : 0 ≤ w1 ∧ w1 < 256) : Ev (fun k => horariumref09_Count.f k w0 w1 w2 w3) (CNT w0 w1 w2 w3) := by
  unfold horariumref09_Count.f CNT
  have hm : w1 % 4294967296 = w1 := by omega
  simp only [ref_Tame_f, Option.bind_some, decide_eq_true_eq, hm]
  by_cases h : TM w2 w3
  · simp only [if_pos h]
    exact Ev.bind (ref_ones_f u0) (Ev.bind (ref_ones_f ⟨u1.1, by omega⟩) (Ev.now _))
  · simp only [if_neg h]
    exact Ev.now _
end Go.Proofs.Ytlkmjjdkkkledaa.W9
