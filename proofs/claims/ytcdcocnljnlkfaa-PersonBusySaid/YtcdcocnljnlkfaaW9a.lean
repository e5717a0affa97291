/- How many moments a time has, by the document's answer; plain. -/
import Derived.Test.YtcdcocnljnlkfaaQ33
import Derived.Test.YtcdcocnljnlkfaaW1
namespace Go.Proofs.Ytcdcocnljnlkfaa.W9
open Go.RowKit Go.Proofs.YtcdcocnljnlkfaaW.PrintWords Go.Proofs.YtcdcocnljnlkfaaW.PrintLast Go.Proofs.YtcdcocnljnlkfaaW.PrintMore Go.Proofs.Ytcdcocnljnlkfaa.M Go.Proofs.Ytcdcocnljnlkfaa.Q Go.Proofs.Ytcdcocnljnlkfaa.W1
theorem ref_ones_l0 {a : Nat} (ha : a < 4294967296) (d : Nat) : ∀ i : Nat, i ≤ 32 → 32 - i = d → Ev (fun k => horariumref09_ones.l0 k a (pc a i : Nat) i) ((pc a 32 : Nat) : Int) := by
  induction d with
  | zero =>
    intro i hi hd
    have hi2 : i = 32 := by omega
    subst hi2
    refine Ev.step (f := fun _ => some _) (fun k => ?_) (Ev.now _)
    simp only [horariumref09_ones.l0]
    rw [if_neg (by decide)]
  | succ d ih =>
    intro i hi hd
    have h1 : (i : Int) < 32 := by omega
    have hp := pc_le a i
    have hb := Aside0.mk (ref_bit_f (x := (a : Int)) (i := (i : Int)) ⟨by omega, by omega⟩ ⟨by omega, by omega⟩)
    have e1 := Aside0.mk (w64s (n := i) (by omega))
    have e2 := Aside0.mk (w64s (n := pc a i) (by omega))
    have next := ih (i + 1) (by omega) (by omega)
    refine Ev.step (fun k => ?_) next
    simp only [horariumref09_ones.l0]
    rw [if_pos h1, hb.out, Option.bind_some, tb_nat, e1.out, e2.out]
    show _ = horariumref09_ones.l0 k a ((pc a i + if a.testBit i = true then 1 else 0 : Nat) : Int) _
    cases a.testBit i <;> rfl
theorem ref_ones_f {x : Int} (u : 0 ≤ x ∧ x < 4294967296) : Ev (fun k => horariumref09_ones.f k x) ((pc x.toNat 32 : Nat) : Int) := by
  obtain ⟨a, rfl⟩ := Int.eq_ofNat_of_zero_le u.1
  exact ref_ones_l0 (a := a) (by omega) _ 0 (by omega) rfl
/-- How many moments a time has. -/
def CNT (w0 w1 w2 w3 : Int) : Int := if TM w2 w3 then wrap64 (wrap64 (((pc w0.toNat 32 : Nat) : Int) * ((pc w1.toNat 32 : Nat) : Int)) * w3) else 0
theorem ref_Count_f {w0 w1 w2 w3 : Int} (u0 : 0 ≤ w0 ∧ w0 < 4294967296) (u1 : 0 ≤ w1 ∧ w1 < 256) : Ev (fun k => horariumref09_Count.f k w0 w1 w2 w3) (CNT w0 w1 w2 w3) := by
  unfold horariumref09_Count.f CNT
  have hm : w1 % 4294967296 = w1 := by omega
  simp only [ref_Tame_f, Option.bind_some, decide_eq_true_eq, hm]
  by_cases h : TM w2 w3
  · simp only [if_pos h]
    exact Ev.bind (ref_ones_f u0) (Ev.bind (ref_ones_f ⟨u1.1, by omega⟩) (Ev.now _))
  · simp only [if_neg h]
    exact Ev.now _
end Go.Proofs.Ytcdcocnljnlkfaa.W9
