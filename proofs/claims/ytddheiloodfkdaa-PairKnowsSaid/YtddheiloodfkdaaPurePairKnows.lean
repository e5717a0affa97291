/- The law PairKnows, over numbers alone. -/
import Derived.Test.YtddheiloodfkdaaQ30
import Derived.Test.YtddheiloodfkdaaK5
import Derived.Test.YtddheiloodfkdaaK5r
set_option linter.unusedVariables false
set_option linter.unusedSimpArgs false
namespace Go.Proofs.Ytddheiloodfkdaa.Pure
open Go.RowKit Go.Proofs.YtddheiloodfkdaaW.PrintWords Go.Proofs.YtddheiloodfkdaaW.PrintLast Go.Proofs.YtddheiloodfkdaaW.PrintMore Go.Proofs.Ytddheiloodfkdaa.M Go.Proofs.Ytddheiloodfkdaa.Q Go.Proofs.Ytddheiloodfkdaa.W1 Go.Proofs.Ytddheiloodfkdaa.W3 Go.Proofs.Ytddheiloodfkdaa.K1 Go.Proofs.Ytddheiloodfkdaa.K2 Go.Proofs.Ytddheiloodfkdaa.R1 Go.Proofs.Ytddheiloodfkdaa.K3 Go.Proofs.Ytddheiloodfkdaa.K4 Go.Proofs.Ytddheiloodfkdaa.K5
theorem heads_ev : Ev (fun k => horariumlaw15_heads.f k) true := Ev.of (fun k => horariumlaw15_heads.mono k) (k := 60) (by decide +kernel)
theorem PairKnows : ∀ (a0_0 : Int) (a0_1 : Int) (a0_2 : Int) (a1 : Int) (a2 : Int) (a3_0 : Int) (a3_1 : Int) (a3_2 : Int) (a3_3 : Int) (a3_4 : Int) (a4_0 : Int) (a4_1 : Int) (a4_2 : Int) (a4_3 : Int) (a4_4 : Int) (a5 : Int), (Lit.int .i64 a0_0).wf = true → (Lit.int .i64 a0_1).wf = true → (Lit.int .i64 a0_2).wf = true → (Lit.int .i64 a1).wf = true → (Lit.int .i64 a2).wf = true → (Lit.int .u32 a3_0).wf = true → (Lit.int .u8 a3_1).wf = true → (Lit.int .i64 a3_2).wf = true → (Lit.int .i64 a3_3).wf = true → (Lit.int .i64 a3_4).wf = true → (Lit.int .u32 a4_0).wf = true → (Lit.int .u8 a4_1).wf = true → (Lit.int .i64 a4_2).wf = true → (Lit.int .i64 a4_3).wf = true → (Lit.int .i64 a4_4).wf = true → (Lit.int .i64 a5).wf = true → ∃ k, horariumlaw15_PairKnows.f k a0_0 a0_1 a0_2 a1 a2 a3_0 a3_1 a3_2 a3_3 a3_4 a4_0 a4_1 a4_2 a4_3 a4_4 a5 = some true := by
  intro g0 g1 g2 kd n aw ad ap al ar bw bd bp bl br wl _ _ _ _ _ u0 u1 _ u3 _ v0 v1 _ v3 _ _
  replace u0 := wf_u32 u0
  replace u1 := wf_u8 u1
  replace u3 := wf_i64 u3
  replace v0 := wf_u32 v0
  replace v1 := wf_u8 v1
  replace v3 := wf_i64 v3
  refine Ev.rounds ?_
  unfold horariumlaw15_PairKnows.f
  refine Ev.bind (Never_ev u0 u1 v0 v1) (Ev.bind (ref_Never_ev u0 u1 u3 v0 v1 v3) ?_)
  simp only [beq_self_eq_true, if_true]
  exact Ev.bind heads_ev (Ev.now _)
end Go.Proofs.Ytddheiloodfkdaa.Pure
