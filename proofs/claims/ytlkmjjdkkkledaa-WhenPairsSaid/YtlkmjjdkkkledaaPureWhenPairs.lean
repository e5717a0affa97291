/- The law WhenPairs, over numbers alone. -/
import Derived.Test.YtlkmjjdkkkledaaQ27
import Derived.Test.YtlkmjjdkkkledaaW5
import Derived.Test.YtlkmjjdkkkledaaW6
import Derived.Test.YtlkmjjdkkkledaaW10
namespace Go.Proofs.Ytlkmjjdkkkledaa.Pure
open Go.RowKit Go.Proofs.YtlkmjjdkkkledaaW.PrintWords Go.Proofs.YtlkmjjdkkkledaaW.PrintLast Go.Proofs.YtlkmjjdkkkledaaW.PrintMore Go.Proofs.Ytlkmjjdkkkledaa.M Go.Proofs.Ytlkmjjdkkkledaa.Q Go.Proofs.Ytlkmjjdkkkledaa.W1 Go.Proofs.Ytlkmjjdkkkledaa.W3 Go.Proofs.Ytlkmjjdkkkledaa.W5 Go.Proofs.Ytlkmjjdkkkledaa.W6 Go.Proofs.Ytlkmjjdkkkledaa.W10
theorem heads_ev : Ev (fun k => horariumlaw09_heads.f k) true := Ev.of (fun k => horariumlaw09_heads.mono k) (k := 60) (by decide +kernel)
theorem WhenPairs : ∀ (a0_0 : Int) (a0_1 : Int) (a0_2 : Int) (a0_3 : Int) (a1_0 : Int) (a1_1 : Int) (a1_2 : Int) (a1_3 : Int), (Lit.int .u32 a0_0).wf = true → (Lit.int .u8 a0_1).wf = true → (Lit.int .i64 a0_2).wf = true → (Lit.int .i64 a0_3).wf = true → (Lit.int .u32 a1_0).wf = true → (Lit.int .u8 a1_1).wf = true → (Lit.int .i64 a1_2).wf = true → (Lit.int .i64 a1_3).wf = true → ∃ k, horariumlaw09_WhenPairs.f k a0_0 a0_1 a0_2 a0_3 a1_0 a1_1 a1_2 a1_3 = some true := by
  intro aw ad ap al bw bd bp bl u0 u1 _ _ v0 v1 _ _
  replace u0 := wf_u32 u0
  replace u1 := wf_u8 u1
  replace v0 := wf_u32 v0
  replace v1 := wf_u8 v1
  refine Ev.rounds ?_
  unfold horariumlaw09_WhenPairs.f
  simp only [when_Gap_f u0 u1 v0 v1, when_Both_f u0 u1 v0 v1, when_Meet_f u0 u1 v0 v1, when_SameDay_f u0 u1 v0 v1, when_Covers_f u0 u1 v0 v1, Option.bind_some]
  refine Ev.bind (ref_Gap_f u0 u1 v0 v1) (Ev.bind (ref_Both_f u0 u1 v0 v1) (Ev.bind (ref_Meet_f u0 u1 v0 v1) ?_))
  simp only [beq_self_eq_true, Bool.and_self, if_true]
  refine Ev.bind (ref_SameDay_f u0 u1 v0 v1) ?_
  simp only [beq_self_eq_true, if_true]
  refine Ev.bind (ref_Covers_f u0 u1 v0 v1) ?_
  simp only [beq_self_eq_true, if_true]
  exact Ev.bind heads_ev (Ev.now true)
end Go.Proofs.Ytlkmjjdkkkledaa.Pure
