/- The row of the law PairOthers: every input that its parameters' types allow, in whatever memory: the call returns true and each argument reads as it read. Conditions: none. -/
import Derived.Test.YtddheiloodfkdaaRows
import Derived.Test.YtddheiloodfkdaaEOthers
import Derived.Test.YtddheiloodfkdaaPurePairOthers
import Derived.Test.YtddheiloodfkdaaOpen
import Derived.WalkKit
import Derived.ProofKit
import Derived.OpenShut
import Derived.ShutString
import Derived.ChangeOld
import Derived.Below
import Derived.SizedLaws
namespace Go.Proofs.Ytddheiloodfkdaa.pairOthers
open Go.ChangeShapes Go.WideShapes Go.ChangeAt Go.RowKit Go.Proofs.YtddheiloodfkdaaW.PrintWords Go.Proofs.Ytddheiloodfkdaa.Open Go.Proofs.Ytddheiloodfkdaa.Q
open Go.ChangeMaps (open_string shut_string)
set_option linter.unusedVariables false
theorem own : ownKnob Try.prog.godebug = none := by kernel_rfl
theorem laidOut : laidOutB Try.prog = true := by kernel_rfl
set_option maxRecDepth 100000 in
set_option maxHeartbeats 1000000 in
theorem lifted (os : Os) (started : os.Started) (H : Type) (enc : TypeId × Value → H) :
    ReturnsInHanded {} Try.checked os 3 .any (Rows.pairOthersSpec.pre6 enc Try.prog Try.f3 Rows.pairOthersRow.domain false) (Rows.pairOthersSpec.post enc Try.prog Try.f3 false true false false) := by
  refine returnsInHanded_of_change_sized (C := Try.checked) own started (by kernel_rfl) Try.func3
    (ChangeSpec.witness6 (enc := enc) (C := Try.checked) false ⟨#[], #[.agg #[.int .i64 0, .int .i64 0, .int .i64 0], .agg #[.int .u32 0, .int .u8 0, .int .i64 0, .int .i64 0, .int .i64 0], .agg #[.int .u32 0, .int .u8 0, .int .i64 0, .int .i64 0, .int .i64 0]], []⟩ 8 (by kernel_rfl) (by kernel_rfl) (by kernel_rfl) (by kernel_rfl)) ?_
  intro W base args ds gs before hval0 hW hcnd _ _
  have hval : ∀ (j : Nat) t v, Try.f3.params[j]? = some t → args[j]? = some v → Value.okWide Try.prog W .any base t v := hval0
  have hW' := hW
  obtain ⟨p, q, hA0, hV, rfl, hfz, hnd⟩ := hW
  have hA : DataW.TrodAll enc Try.prog W 0 (fun _ => true) true Try.f3.params.toList args.toList ds p := hA0
  rw [Try.params3] at hA hval
  obtain ⟨v0, vs0, d0, ds0, p0, q0, hargs, rfl, rfl, h0, r0⟩ := trodAll_cons hA
  obtain ⟨v1, vs1, d1, ds1, p1, q1, rfl, rfl, rfl, h1, r1⟩ := trodAll_cons r0
  obtain ⟨v2, vs2, d2, ds2, p2, q2, rfl, rfl, rfl, h2, r2⟩ := trodAll_cons r1
  obtain ⟨rfl, rfl, rfl⟩ := trodAll_nil r2
  obtain rfl : args = #[v0, v1, v2] := by cases args; simp_all
  obtain ⟨rfl, rfl⟩ := trodVars_none hV
  have lt0 : ∀ x ∈ p0, x.block < W.heap.size := by obtain ⟨m, hm⟩ := h0; exact DataW.trod_lt m _ _ _ hm
  obtain ⟨x0, cs0, rfl, K0, g0⟩ := reads_arg Try.underlying23 (reads_struct3 Try.underlying23 (by kernel_rfl) (by kernel_rfl) (by kernel_rfl) (by kernel_rfl) rfl rfl rfl (reads_int Try.underlying3) (reads_int Try.underlying3) (reads_int Try.underlying3)) (hval 0 23 v0 rfl rfl) h0
  obtain ⟨_, _, e0, rfl, ⟨_, _, rfl, rfl, rfl⟩⟩ := K0
  obtain rfl : cs0 = #[.int .i64 x0.1, .int .i64 x0.2.1, .int .i64 x0.2.2] := Array.ext' e0
  have lt1 : ∀ x ∈ p1, x.block < W.heap.size := by obtain ⟨m, hm⟩ := h1; exact DataW.trod_lt m _ _ _ hm
  obtain ⟨x1, cs1, rfl, K1, g1⟩ := reads_arg Try.underlying28 (reads_struct2 Try.underlying28 (by kernel_rfl) (by kernel_rfl) (by kernel_rfl) rfl rfl (reads_struct4 Try.underlying26 (by kernel_rfl) (by kernel_rfl) (by kernel_rfl) (by kernel_rfl) (by kernel_rfl) rfl rfl rfl rfl (reads_int Try.underlying24) (reads_int Try.underlying5) (reads_int Try.underlying3) (reads_int Try.underlying3)) (reads_int Try.underlying3)) (hval 1 28 v1 rfl rfl) h1
  obtain ⟨_, _, e1, ⟨_, _, rfl, rfl, ⟨_, _, rfl, rfl, ⟨_, _, rfl, rfl, rfl⟩⟩⟩, rfl⟩ := K1
  obtain rfl : cs1 = #[.int .u32 x1.1.1, .int .u8 x1.1.2.1, .int .i64 x1.1.2.2.1, .int .i64 x1.1.2.2.2, .int .i64 x1.2] := Array.ext' e1
  have lt2 : ∀ x ∈ p2, x.block < W.heap.size := by obtain ⟨m, hm⟩ := h2; exact DataW.trod_lt m _ _ _ hm
  obtain ⟨x2, cs2, rfl, K2, g2⟩ := reads_arg Try.underlying28 (reads_struct2 Try.underlying28 (by kernel_rfl) (by kernel_rfl) (by kernel_rfl) rfl rfl (reads_struct4 Try.underlying26 (by kernel_rfl) (by kernel_rfl) (by kernel_rfl) (by kernel_rfl) (by kernel_rfl) rfl rfl rfl rfl (reads_int Try.underlying24) (reads_int Try.underlying5) (reads_int Try.underlying3) (reads_int Try.underlying3)) (reads_int Try.underlying3)) (hval 2 28 v2 rfl rfl) h2
  obtain ⟨_, _, e2, ⟨_, _, rfl, rfl, ⟨_, _, rfl, rfl, ⟨_, _, rfl, rfl, rfl⟩⟩⟩, rfl⟩ := K2
  obtain rfl : cs2 = #[.int .u32 x2.1.1, .int .u8 x2.1.2.1, .int .i64 x2.1.2.2.1, .int .i64 x2.1.2.2.2, .int .i64 x2.2] := Array.ext' e2
  clear hA0 hval0
  obtain ⟨k, hk⟩ := Pure.PairOthers x0.1 x0.2.1 x0.2.2 x1.1.1 x1.1.2.1 x1.1.2.2.1 x1.1.2.2.2 x1.2 x2.1.1 x2.1.2.1 x2.1.2.2.1 x2.1.2.2.2 x2.2 g0.1 g0.2.1 g0.2.2 g1.1.1 g1.1.2.1 g1.1.2.2.1 g1.1.2.2.2 g1.2 g2.1.1 g2.1.2.1 g2.1.2.2.1 g2.1.2.2.2 g2.2
  refine (horariumlaw15_PairOthers.calls k x0.1 x0.2.1 x0.2.2 x1.1.1 x1.1.2.1 x1.1.2.2.1 x1.1.2.2.2 x1.2 x2.1.1 x2.1.2.1 x2.1.2.2.1 x2.1.2.2.2 x2.2 true W  (Aside0.mk rfl) hk).mono fun e W' ⟨he, bel0⟩ => ?_
  have bel := bel0
  subst he
  exact ⟨_, rfl, _, _, _, [], _, [], hW', trodAll_mk1 (shut_bool Try.underlying4 _), (trodAll_cons_mk (Below.trod laidOut (by kernel_rfl) (of_decide_eq_true (by kernel_rfl)) h0 bel lt0) (trodAll_cons_mk (Below.trod laidOut (by kernel_rfl) (of_decide_eq_true (by kernel_rfl)) h1 bel lt1) (trodAll_cons_mk (Below.trod laidOut (by kernel_rfl) (of_decide_eq_true (by kernel_rfl)) h2 bel lt2) trodAll_mk0))), rfl, bel.frame _, fun h => by cases h⟩
theorem over : Rows.pairOthersRow.holds Try.pinned (OpenSpec.ofChange Rows.pairOthersSpec) :=
  OpenClaim.holds_of_wide 3 Try.f3 rfl rfl rfl rfl rfl rfl rfl ⟨rfl, rfl, rfl, rfl, rfl⟩ rfl rfl rfl rfl rfl (by kernel_rfl) Try.func3 (by kernel_rfl)
    (of_decide_eq_true (by kernel_rfl)) (by unfold Func.isWrapper; first | (rw [if_pos (by decide +kernel)]; kernel_rfl) | (rw [if_neg (by decide +kernel)]; exact ⟨rfl, rfl⟩))
    (fun os started H enc _ => lifted os started H enc)
theorem proved : Rows.PairOthersSaid := over
#print axioms proved
end Go.Proofs.Ytddheiloodfkdaa.pairOthers
namespace Go.Proofs.Ytddheiloodfkdaa
/-- The row, under a short name, for the claim. -/
theorem pairOthers_holds : Rows.PairOthersSaid := pairOthers.proved
end Go.Proofs.Ytddheiloodfkdaa
