/- The law WhenTells, over numbers alone. -/
import Derived.Test.YtlkmjjdkkkledaaQ15
import Derived.Test.YtlkmjjdkkkledaaW2
import Derived.Test.YtlkmjjdkkkledaaW4
import Derived.Test.YtlkmjjdkkkledaaW9
namespace Go.Proofs.Ytlkmjjdkkkledaa.Pure
open Go.RowKit Go.Proofs.YtlkmjjdkkkledaaW.PrintWords Go.Proofs.YtlkmjjdkkkledaaW.PrintLast Go.Proofs.YtlkmjjdkkkledaaW.PrintMore Go.Proofs.Ytlkmjjdkkkledaa.M Go.Proofs.Ytlkmjjdkkkledaa.Q Go.Proofs.Ytlkmjjdkkkledaa.W1 Go.Proofs.Ytlkmjjdkkkledaa.W2 Go.Proofs.Ytlkmjjdkkkledaa.W4 Go.Proofs.Ytlkmjjdkkkledaa.W9
theorem heads_ev : Ev (fun k => horariumlaw09_heads.f k) true := Ev.of (fun k => horariumlaw09_heads.mono k) (k := 60) (by decide +kernel)
theorem MOM_len {g0 g1 g2 w0 w1 w2 w3 : Int} : (MOM g0 g1 g2 w0 w1 w2 w3).length ≤ 20 * 7 * 96 := by
  unfold MOM
  split
  · rename_i h
    refine Nat.le_trans (FL_len _ _) ?_
    have h := h.1
    unfold RG at h
    exact Nat.mul_le_mul (Nat.mul_le_mul (by omega) (by omega)) (by omega)
  · simp
theorem WhenTells : ∀ (a0_0 : Int) (a0_1 : Int) (a0_2 : Int) (a1_0 : Int) (a1_1 : Int) (a1_2 : Int) (a1_3 : Int), (Lit.int .i64 a0_0).wf = true → (Lit.int .i64 a0_1).wf = true → (Lit.int .i64 a0_2).wf = true → (Lit.int .u32 a1_0).wf = true → (Lit.int .u8 a1_1).wf = true → (Lit.int .i64 a1_2).wf = true → (Lit.int .i64 a1_3).wf = true → ∃ k, horariumlaw09_WhenTells.f k a0_0 a0_1 a0_2 a1_0 a1_1 a1_2 a1_3 = some true := by
  intro g0 g1 g2 w0 w1 w2 w3 _ _ _ u0 u1 _ u3
  replace u0 := wf_u32 u0
  replace u1 := wf_u8 u1
  replace u3 := wf_i64 u3
  refine Ev.rounds ?_
  unfold horariumlaw09_WhenTells.f
  simp only [when_RightGrid_f, ref_RightGrid_f, when_Right_f u0 u1, Option.bind_some, beq_self_eq_true, if_true]
  refine Ev.bind (ref_Right_f u0 u1 u3) ?_
  simp only [beq_self_eq_true, if_true]
  refine Ev.bind (when_Moments_f u0 u1) (Ev.bind (ref_Moments_f u0 u1 u3) (Ev.bind (Ints_same (Nat.le_trans MOM_len (by decide))) ?_))
  simp only [if_true]
  refine Ev.bind (when_Count_f u0 u1) (Ev.bind (ref_Count_f u0 u1) ?_)
  simp only [if_true]
  exact Ev.bind heads_ev (Ev.now true)
end Go.Proofs.Ytlkmjjdkkkledaa.Pure
