/- The row of the law PersonLeaves: every input that its parameters' types allow, in whatever memory: the call returns true and each argument reads as it read. Conditions: none. -/
import Derived.Test.YtcdcocnljnlkfaaRows
import Derived.Test.YtcdcocnljnlkfaaQ20
import Derived.Test.YtcdcocnljnlkfaaPurePersonLeaves
import Derived.Test.YtcdcocnljnlkfaaOpen
import Derived.WalkKit
import Derived.ProofKit
import Derived.OpenShut
import Derived.ShutString
import Derived.ChangeOld
import Derived.Below
import Derived.SizedLaws
namespace Go.Proofs.Ytcdcocnljnlkfaa.personLeaves
open Go.ChangeShapes Go.WideShapes Go.ChangeAt Go.RowKit Go.Proofs.YtcdcocnljnlkfaaW.PrintWords Go.Proofs.Ytcdcocnljnlkfaa.Open Go.Proofs.Ytcdcocnljnlkfaa.Q
open Go.ChangeMaps (open_string shut_string)
set_option linter.unusedVariables false
instance : Inhabited S27 := ⟨z27⟩
theorem own : ownKnob Try.prog.godebug = none := by kernel_rfl
theorem laidOut : laidOutB Try.prog = true := by kernel_rfl
set_option maxRecDepth 100000 in
set_option maxHeartbeats 1000000 in
theorem lifted (os : Os) (started : os.Started) (H : Type) (enc : TypeId × Value → H) :
    ReturnsInHanded {} Try.checked os 3 .any (Rows.personLeavesSpec.pre6 enc Try.prog Try.f3 Rows.personLeavesRow.domain false) (Rows.personLeavesSpec.post enc Try.prog Try.f3 false true false false) := by
  refine returnsInHanded_of_change_sized (C := Try.checked) own started (by kernel_rfl) Try.func3
    (ChangeSpec.witness6 (enc := enc) (C := Try.checked) false ⟨#[], #[.agg #[.string ByteArray.empty, .slice none 0 0], .agg #[.int .u32 0, .int .u8 0, .int .i64 0, .int .i64 0]], []⟩ 8 (by kernel_rfl) (by kernel_rfl) (by kernel_rfl) (by kernel_rfl)) ?_
  intro W base args ds gs before hval0 hW hcnd _ _
  have hval : ∀ (j : Nat) t v, Try.f3.params[j]? = some t → args[j]? = some v → Value.okWide Try.prog W .any base t v := hval0
  have hW' := hW
  obtain ⟨p, q, hA0, hV, rfl, hfz, hnd⟩ := hW
  have hA : DataW.TrodAll enc Try.prog W 0 (fun _ => true) true Try.f3.params.toList args.toList ds p := hA0
  rw [Try.params3] at hA hval
  obtain ⟨v0, vs0, d0, ds0, p0, q0, hargs, rfl, rfl, h0, r0⟩ := trodAll_cons hA
  obtain ⟨v1, vs1, d1, ds1, p1, q1, rfl, rfl, rfl, h1, r1⟩ := trodAll_cons r0
  obtain ⟨rfl, rfl, rfl⟩ := trodAll_nil r1
  obtain rfl : args = #[v0, v1] := by cases args; simp_all
  obtain ⟨rfl, rfl⟩ := trodVars_none hV
  have lt0 : ∀ x ∈ p0, x.block < W.heap.size := by obtain ⟨m, hm⟩ := h0; exact DataW.trod_lt m _ _ _ hm
  obtain ⟨x0, cs0, rfl, K0, g0⟩ := reads_arg Try.underlying24 (reads_struct2 Try.underlying24 (by kernel_rfl) (by kernel_rfl) (by kernel_rfl) rfl rfl (reads_string Try.underlying9) (reads_slice Try.underlying22 (by kernel_rfl) (reads_iso (reads_struct4 Try.underlying27 (by kernel_rfl) (by kernel_rfl) (by kernel_rfl) (by kernel_rfl) (by kernel_rfl) rfl rfl rfl rfl (reads_int Try.underlying25) (reads_int Try.underlying5) (reads_int Try.underlying3) (reads_int Try.underlying3)) (fun x : S27 => (x.f0, x.f1, x.f2, x.f3)) (fun x => (⟨x.1, x.2.1, x.2.2.1, x.2.2.2⟩ : S27)) (fun _ => rfl)))) (hval 0 24 v0 rfl rfl) h0
  obtain ⟨_, _, e0, rfl, ⟨A0_1, c0_1, rfl, hc0_1, hr0_1⟩⟩ := K0
  obtain rfl : cs0 = #[.string x0.1, .slice A0_1 x0.2.length c0_1] := Array.ext' e0
  have lt1 : ∀ x ∈ p1, x.block < W.heap.size := by obtain ⟨m, hm⟩ := h1; exact DataW.trod_lt m _ _ _ hm
  obtain ⟨x1, cs1, rfl, K1, g1⟩ := reads_arg Try.underlying27 (reads_struct4 Try.underlying27 (by kernel_rfl) (by kernel_rfl) (by kernel_rfl) (by kernel_rfl) (by kernel_rfl) rfl rfl rfl rfl (reads_int Try.underlying25) (reads_int Try.underlying5) (reads_int Try.underlying3) (reads_int Try.underlying3)) (hval 1 27 v1 rfl rfl) h1
  obtain ⟨_, _, e1, rfl, ⟨_, _, rfl, rfl, ⟨_, _, rfl, rfl, rfl⟩⟩⟩ := K1
  obtain rfl : cs1 = #[.int .u32 x1.1, .int .u8 x1.2.1, .int .i64 x1.2.2.1, .int .i64 x1.2.2.2] := Array.ext' e1
  clear hA0 hval0
  obtain ⟨k, hk⟩ := Pure.PersonLeaves x0.1 x0.2 x1.1 x1.2.1 x1.2.2.1 x1.2.2.2 g0.1 g0.2 g1.1 g1.2.1 g1.2.2.1 g1.2.2.2
  refine (horariumlaw12_PersonLeaves.calls k x0.1 A0_1 c0_1 x0.2 x1.1 x1.2.1 x1.2.2.1 x1.2.2.2 true W hr0_1 hc0_1 (Aside0.mk rfl) hk).mono fun e W' ⟨he, bel0⟩ => ?_
  have bel := bel0
  subst he
  exact ⟨_, rfl, _, _, _, [], _, [], hW', trodAll_mk1 (shut_bool Try.underlying4 _), (trodAll_cons_mk (Below.trod laidOut (by kernel_rfl) (of_decide_eq_true (by kernel_rfl)) h0 bel lt0) (trodAll_cons_mk (Below.trod laidOut (by kernel_rfl) (of_decide_eq_true (by kernel_rfl)) h1 bel lt1) trodAll_mk0)), rfl, bel.frame _, fun h => by cases h⟩
theorem over : Rows.personLeavesRow.holds Try.pinned (OpenSpec.ofChange Rows.personLeavesSpec) :=
  OpenClaim.holds_of_wide 3 Try.f3 rfl rfl rfl rfl rfl rfl rfl ⟨rfl, rfl, rfl, rfl, rfl⟩ rfl rfl rfl rfl rfl (by kernel_rfl) Try.func3 (by kernel_rfl)
    (of_decide_eq_true (by kernel_rfl)) (by unfold Func.isWrapper; first | (rw [if_pos (by decide +kernel)]; kernel_rfl) | (rw [if_neg (by decide +kernel)]; exact ⟨rfl, rfl⟩))
    (fun os started H enc _ => lifted os started H enc)
theorem proved : Rows.PersonLeavesSaid := over
#print axioms proved
end Go.Proofs.Ytcdcocnljnlkfaa.personLeaves
namespace Go.Proofs.Ytcdcocnljnlkfaa
/-- The row, under a short name, for the claim. -/
theorem personLeaves_holds : Rows.PersonLeavesSaid := personLeaves.proved
end Go.Proofs.Ytcdcocnljnlkfaa
