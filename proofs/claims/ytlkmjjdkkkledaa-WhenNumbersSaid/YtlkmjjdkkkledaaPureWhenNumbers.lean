/- The law WhenNumbers, over numbers alone. -/
import Derived.Test.YtlkmjjdkkkledaaENumbers
import Derived.Test.YtlkmjjdkkkledaaW11
namespace Go.Proofs.Ytlkmjjdkkkledaa.Pure
open Go.RowKit Go.Proofs.YtlkmjjdkkkledaaW.PrintWords Go.Proofs.YtlkmjjdkkkledaaW.PrintLast Go.Proofs.YtlkmjjdkkkledaaW.PrintMore Go.Proofs.Ytlkmjjdkkkledaa.M Go.Proofs.Ytlkmjjdkkkledaa.Q Go.Proofs.Ytlkmjjdkkkledaa.W1 Go.Proofs.Ytlkmjjdkkkledaa.W11
theorem WhenNumbers : ∀ (a0_0 : Int) (a0_1 : Int) (a0_2 : Int) (a1_0 : Int) (a1_1 : Int) (a1_2 : Int) (a2 : Int), (Lit.int .i64 a0_0).wf = true → (Lit.int .i64 a0_1).wf = true → (Lit.int .i64 a0_2).wf = true → (Lit.int .i64 a1_0).wf = true → (Lit.int .i64 a1_1).wf = true → (Lit.int .i64 a1_2).wf = true → (Lit.int .i64 a2).wf = true → ∃ k, horariumlaw09_WhenNumbers.f k a0_0 a0_1 a0_2 a1_0 a1_1 a1_2 a2 = some true := by
  intro g0 g1 g2 a b c m _ _ _ _ _ _ _
  have hh : horariumlaw09_heads.f 60 = some true := by decide +kernel
  refine ⟨60, ?_⟩
  unfold horariumlaw09_WhenNumbers.f
  simp only [when_Of_f, ref_Of_f, when_Moment_f, ref_Moment_f, Option.bind_some, if_true, bne_self_eq_false, Bool.false_eq_true, if_false, hh]
  unfold OF
  by_cases h : IN g0 g1 g2 m
  · simp only [if_pos h, MO_OF h, if_true]
  · simp only [if_neg h, Bool.false_eq_true, if_false]
end Go.Proofs.Ytlkmjjdkkkledaa.Pure
