/- The row of the law PairNever: every input that its parameters' types allow, in whatever memory: the call returns true and each argument reads as it read. Conditions: none. -/
import Derived.Test.YtddheiloodfkdaaRows
import Derived.Test.YtddheiloodfkdaaENever
import Derived.Test.YtddheiloodfkdaaPurePairNever
import Derived.Test.YtddheiloodfkdaaOpen
import Derived.WalkKit
import Derived.ProofKit
import Derived.OpenShut
import Derived.ShutString
import Derived.ChangeOld
import Derived.Below
import Derived.SizedLaws
namespace Go.Proofs.Ytddheiloodfkdaa.pairNever
open Go.ChangeShapes Go.WideShapes Go.ChangeAt Go.RowKit Go.Proofs.YtddheiloodfkdaaW.PrintWords Go.Proofs.Ytddheiloodfkdaa.Open Go.Proofs.Ytddheiloodfkdaa.Q
open Go.ChangeMaps (open_string shut_string)
set_option linter.unusedVariables false
theorem own : ownKnob Try.prog.godebug = none := by kernel_rfl
theorem laidOut : laidOutB Try.prog = true := by kernel_rfl
set_option maxRecDepth 100000 in
set_option maxHeartbeats 1000000 in
theorem lifted (os : Os) (started : os.Started) (H : Type) (enc : TypeId × Value → H) :
    ReturnsInHanded {} Try.checked os 5 .any (Rows.pairNeverSpec.pre6 enc Try.prog Try.f5 Rows.pairNeverRow.domain false) (Rows.pairNeverSpec.post enc Try.prog Try.f5 false true false false) := by
  refine returnsInHanded_of_change_sized (C := Try.checked) own started (by kernel_rfl) Try.func5
    (ChangeSpec.witness6 (enc := enc) (C := Try.checked) false ⟨#[], #[.agg #[.int .i64 0, .int .i64 0, .int .i64 0], .int .i64 0, .int .i64 0, .agg #[.int .u32 0, .int .u8 0, .int .i64 0, .int .i64 0, .int .i64 0], .agg #[.int .u32 0, .int .u8 0, .int .i64 0, .int .i64 0, .int .i64 0], .int .i64 0], []⟩ 8 (by kernel_rfl) (by kernel_rfl) (by kernel_rfl) (by kernel_rfl)) ?_
  intro W base args ds gs before hval0 hW hcnd _ _
  have hval : ∀ (j : Nat) t v, Try.f5.params[j]? = some t → args[j]? = some v → Value.okWide Try.prog W .any base t v := hval0
  have hW' := hW
  obtain ⟨p, q, hA0, hV, rfl, hfz, hnd⟩ := hW
  have hA : DataW.TrodAll enc Try.prog W 0 (fun _ => true) true Try.f5.params.toList args.toList ds p := hA0
  rw [Try.params5] at hA hval
  obtain ⟨v0, vs0, d0, ds0, p0, q0, hargs, rfl, rfl, h0, r0⟩ := trodAll_cons hA
  obtain ⟨v1, vs1, d1, ds1, p1, q1, rfl, rfl, rfl, h1, r1⟩ := trodAll_cons r0
  obtain ⟨v2, vs2, d2, ds2, p2, q2, rfl, rfl, rfl, h2, r2⟩ := trodAll_cons r1
  obtain ⟨v3, vs3, d3, ds3, p3, q3, rfl, rfl, rfl, h3, r3⟩ := trodAll_cons r2
  obtain ⟨v4, vs4, d4, ds4, p4, q4, rfl, rfl, rfl, h4, r4⟩ := trodAll_cons r3
  obtain ⟨v5, vs5, d5, ds5, p5, q5, rfl, rfl, rfl, h5, r5⟩ := trodAll_cons r4
  obtain ⟨rfl, rfl, rfl⟩ := trodAll_nil r5
  obtain rfl : args = #[v0, v1, v2, v3, v4, v5] := by cases args; simp_all
  obtain ⟨rfl, rfl⟩ := trodVars_none hV
  have lt0 : ∀ x ∈ p0, x.block < W.heap.size := by obtain ⟨m, hm⟩ := h0; exact DataW.trod_lt m _ _ _ hm
  obtain ⟨x0, cs0, rfl, K0, g0⟩ := reads_arg Try.underlying23 (reads_struct3 Try.underlying23 (by kernel_rfl) (by kernel_rfl) (by kernel_rfl) (by kernel_rfl) rfl rfl rfl (reads_int Try.underlying3) (reads_int Try.underlying3) (reads_int Try.underlying3)) (hval 0 23 v0 rfl rfl) h0
  obtain ⟨_, _, e0, rfl, ⟨_, _, rfl, rfl, rfl⟩⟩ := K0
  obtain rfl : cs0 = #[.int .i64 x0.1, .int .i64 x0.2.1, .int .i64 x0.2.2] := Array.ext' e0
  obtain ⟨x1, rfl, rfl, rfl, g1⟩ := open_int Try.underlying29 (hval 1 29 v1 rfl rfl) h1
  obtain ⟨x2, rfl, rfl, rfl, g2⟩ := open_int Try.underlying3 (hval 2 3 v2 rfl rfl) h2
  have lt3 : ∀ x ∈ p3, x.block < W.heap.size := by obtain ⟨m, hm⟩ := h3; exact DataW.trod_lt m _ _ _ hm
  obtain ⟨x3, cs3, rfl, K3, g3⟩ := reads_arg Try.underlying28 (reads_struct2 Try.underlying28 (by kernel_rfl) (by kernel_rfl) (by kernel_rfl) rfl rfl (reads_struct4 Try.underlying26 (by kernel_rfl) (by kernel_rfl) (by kernel_rfl) (by kernel_rfl) (by kernel_rfl) rfl rfl rfl rfl (reads_int Try.underlying24) (reads_int Try.underlying5) (reads_int Try.underlying3) (reads_int Try.underlying3)) (reads_int Try.underlying3)) (hval 3 28 v3 rfl rfl) h3
  obtain ⟨_, _, e3, ⟨_, _, rfl, rfl, ⟨_, _, rfl, rfl, ⟨_, _, rfl, rfl, rfl⟩⟩⟩, rfl⟩ := K3
  obtain rfl : cs3 = #[.int .u32 x3.1.1, .int .u8 x3.1.2.1, .int .i64 x3.1.2.2.1, .int .i64 x3.1.2.2.2, .int .i64 x3.2] := Array.ext' e3
  have lt4 : ∀ x ∈ p4, x.block < W.heap.size := by obtain ⟨m, hm⟩ := h4; exact DataW.trod_lt m _ _ _ hm
  obtain ⟨x4, cs4, rfl, K4, g4⟩ := reads_arg Try.underlying28 (reads_struct2 Try.underlying28 (by kernel_rfl) (by kernel_rfl) (by kernel_rfl) rfl rfl (reads_struct4 Try.underlying26 (by kernel_rfl) (by kernel_rfl) (by kernel_rfl) (by kernel_rfl) (by kernel_rfl) rfl rfl rfl rfl (reads_int Try.underlying24) (reads_int Try.underlying5) (reads_int Try.underlying3) (reads_int Try.underlying3)) (reads_int Try.underlying3)) (hval 4 28 v4 rfl rfl) h4
  obtain ⟨_, _, e4, ⟨_, _, rfl, rfl, ⟨_, _, rfl, rfl, ⟨_, _, rfl, rfl, rfl⟩⟩⟩, rfl⟩ := K4
  obtain rfl : cs4 = #[.int .u32 x4.1.1, .int .u8 x4.1.2.1, .int .i64 x4.1.2.2.1, .int .i64 x4.1.2.2.2, .int .i64 x4.2] := Array.ext' e4
  obtain ⟨x5, rfl, rfl, rfl, g5⟩ := open_int Try.underlying3 (hval 5 3 v5 rfl rfl) h5
  clear hA0 hval0
  obtain ⟨k, hk⟩ := Pure.PairNever x0.1 x0.2.1 x0.2.2 x1 x2 x3.1.1 x3.1.2.1 x3.1.2.2.1 x3.1.2.2.2 x3.2 x4.1.1 x4.1.2.1 x4.1.2.2.1 x4.1.2.2.2 x4.2 x5 g0.1 g0.2.1 g0.2.2 g1 g2 g3.1.1 g3.1.2.1 g3.1.2.2.1 g3.1.2.2.2 g3.2 g4.1.1 g4.1.2.1 g4.1.2.2.1 g4.1.2.2.2 g4.2 g5
  refine (horariumlaw15_PairNever.calls k x0.1 x0.2.1 x0.2.2 x1 x2 x3.1.1 x3.1.2.1 x3.1.2.2.1 x3.1.2.2.2 x3.2 x4.1.1 x4.1.2.1 x4.1.2.2.1 x4.1.2.2.2 x4.2 x5 true W  (Aside0.mk rfl) hk).mono fun e W' ⟨he, bel0⟩ => ?_
  have bel := bel0
  subst he
  exact ⟨_, rfl, _, _, _, [], _, [], hW', trodAll_mk1 (shut_bool Try.underlying4 _), (trodAll_cons_mk (Below.trod laidOut (by kernel_rfl) (of_decide_eq_true (by kernel_rfl)) h0 bel lt0) (trodAll_cons_mk (shut_int Try.underlying29 g1) (trodAll_cons_mk (shut_int Try.underlying3 g2) (trodAll_cons_mk (Below.trod laidOut (by kernel_rfl) (of_decide_eq_true (by kernel_rfl)) h3 bel lt3) (trodAll_cons_mk (Below.trod laidOut (by kernel_rfl) (of_decide_eq_true (by kernel_rfl)) h4 bel lt4) (trodAll_cons_mk (shut_int Try.underlying3 g5) trodAll_mk0)))))), rfl, bel.frame _, fun h => by cases h⟩
theorem over : Rows.pairNeverRow.holds Try.pinned (OpenSpec.ofChange Rows.pairNeverSpec) :=
  OpenClaim.holds_of_wide 5 Try.f5 rfl rfl rfl rfl rfl rfl rfl ⟨rfl, rfl, rfl, rfl, rfl⟩ rfl rfl rfl rfl rfl (by kernel_rfl) Try.func5 (by kernel_rfl)
    (of_decide_eq_true (by kernel_rfl)) (by unfold Func.isWrapper; first | (rw [if_pos (by decide +kernel)]; kernel_rfl) | (rw [if_neg (by decide +kernel)]; exact ⟨rfl, rfl⟩))
    (fun os started H enc _ => lifted os started H enc)
theorem proved : Rows.PairNeverSaid := over
#print axioms proved
end Go.Proofs.Ytddheiloodfkdaa.pairNever
namespace Go.Proofs.Ytddheiloodfkdaa
/-- The row, under a short name, for the claim. -/
theorem pairNever_holds : Rows.PairNeverSaid := pairNever.proved
end Go.Proofs.Ytddheiloodfkdaa
