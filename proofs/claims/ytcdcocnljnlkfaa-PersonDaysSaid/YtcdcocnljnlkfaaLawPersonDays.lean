/- The row of the law PersonDays: every input that its parameters' types allow, in whatever memory: the call returns true and each argument reads as it read. Conditions: none. -/
import Derived.Test.YtcdcocnljnlkfaaRows
import Derived.Test.YtcdcocnljnlkfaaQ31
import Derived.Test.YtcdcocnljnlkfaaPurePersonDays
import Derived.Test.YtcdcocnljnlkfaaOpen
import Derived.WalkKit
import Derived.ProofKit
import Derived.OpenShut
import Derived.ShutString
import Derived.ChangeOld
import Derived.Below
import Derived.SizedLaws
namespace Go.Proofs.Ytcdcocnljnlkfaa.personDays
open Go.ChangeShapes Go.WideShapes Go.ChangeAt Go.RowKit Go.Proofs.YtcdcocnljnlkfaaW.PrintWords Go.Proofs.Ytcdcocnljnlkfaa.Open Go.Proofs.Ytcdcocnljnlkfaa.Q
open Go.ChangeMaps (open_string shut_string)
set_option linter.unusedVariables false
instance : Inhabited S27 := ⟨z27⟩
theorem own : ownKnob Try.prog.godebug = none := by kernel_rfl
theorem laidOut : laidOutB Try.prog = true := by kernel_rfl
set_option maxRecDepth 100000 in
set_option maxHeartbeats 1000000 in
theorem lifted (os : Os) (started : os.Started) (H : Type) (enc : TypeId × Value → H) :
    ReturnsInHanded {} Try.checked os 6 .any (Rows.personDaysSpec.pre6 enc Try.prog Try.f6 Rows.personDaysRow.domain false) (Rows.personDaysSpec.post enc Try.prog Try.f6 false true false false) := by
  refine returnsInHanded_of_change_sized (C := Try.checked) own started (by kernel_rfl) Try.func6
    (ChangeSpec.witness6 (enc := enc) (C := Try.checked) false ⟨#[], #[.agg #[.int .i64 0, .int .i64 0, .int .i64 0], .slice none 0 0], []⟩ 8 (by kernel_rfl) (by kernel_rfl) (by kernel_rfl) (by kernel_rfl)) ?_
  intro W base args ds gs before hval0 hW hcnd _ _
  have hval : ∀ (j : Nat) t v, Try.f6.params[j]? = some t → args[j]? = some v → Value.okWide Try.prog W .any base t v := hval0
  have hW' := hW
  obtain ⟨p, q, hA0, hV, rfl, hfz, hnd⟩ := hW
  have hA : DataW.TrodAll enc Try.prog W 0 (fun _ => true) true Try.f6.params.toList args.toList ds p := hA0
  rw [Try.params6] at hA hval
  obtain ⟨v0, vs0, d0, ds0, p0, q0, hargs, rfl, rfl, h0, r0⟩ := trodAll_cons hA
  obtain ⟨v1, vs1, d1, ds1, p1, q1, rfl, rfl, rfl, h1, r1⟩ := trodAll_cons r0
  obtain ⟨rfl, rfl, rfl⟩ := trodAll_nil r1
  obtain rfl : args = #[v0, v1] := by cases args; simp_all
  obtain ⟨rfl, rfl⟩ := trodVars_none hV
  have lt0 : ∀ x ∈ p0, x.block < W.heap.size := by obtain ⟨m, hm⟩ := h0; exact DataW.trod_lt m _ _ _ hm
  obtain ⟨x0, cs0, rfl, K0, g0⟩ := reads_arg Try.underlying39 (reads_struct3 Try.underlying39 (by kernel_rfl) (by kernel_rfl) (by kernel_rfl) (by kernel_rfl) rfl rfl rfl (reads_int Try.underlying3) (reads_int Try.underlying3) (reads_int Try.underlying3)) (hval 0 39 v0 rfl rfl) h0
  obtain ⟨_, _, e0, rfl, ⟨_, _, rfl, rfl, rfl⟩⟩ := K0
  obtain rfl : cs0 = #[.int .i64 x0.1, .int .i64 x0.2.1, .int .i64 x0.2.2] := Array.ext' e0
  have lt1 : ∀ x ∈ p1, x.block < W.heap.size := by obtain ⟨m, hm⟩ := h1; exact DataW.trod_lt m _ _ _ hm
  obtain ⟨a1, len1, cap1, rfl⟩ := okWide_slice Try.underlying22 (hval 1 22 v1 rfl rfl)
  obtain ⟨l1, ⟨A1, c1, e1, hc1, hr1⟩, g1⟩ : ∃ l, ((Kd.slice 27 k27)).K W l [.slice a1 len1 cap1] ∧ ∀ x ∈ l, ((Lit.int .u32 x.f0).wf = true ∧ (Lit.int .u8 x.f1).wf = true ∧ (Lit.int .i64 x.f2).wf = true ∧ (Lit.int .i64 x.f3).wf = true) := by
    obtain ⟨fuel, hf⟩ := h1
    exact (reads_slice Try.underlying22 (by kernel_rfl) (reads_iso (reads_struct4 Try.underlying27 (by kernel_rfl) (by kernel_rfl) (by kernel_rfl) (by kernel_rfl) (by kernel_rfl) rfl rfl rfl rfl (reads_int Try.underlying25) (reads_int Try.underlying5) (reads_int Try.underlying3) (reads_int Try.underlying3)) (fun x : S27 => (x.f0, x.f1, x.f2, x.f3)) (fun x => (⟨x.1, x.2.1, x.2.2.1, x.2.2.2⟩ : S27)) (fun _ => rfl))) _ _ _ hf
  injection (List.cons.inj e1).1 with e1 e2 e3
  subst e1 e2 e3
  clear hA0 hval0
  obtain ⟨k, hk⟩ := Pure.PersonDays x0.1 x0.2.1 x0.2.2 l1 g0.1 g0.2.1 g0.2.2 g1
  refine (horariumlaw12_PersonDays.calls k x0.1 x0.2.1 x0.2.2 a1 cap1 l1 true W hr1 hc1 (Aside0.mk rfl) hk).mono fun e W' ⟨he, bel0⟩ => ?_
  have bel := bel0
  subst he
  exact ⟨_, rfl, _, _, _, [], _, [], hW', trodAll_mk1 (shut_bool Try.underlying4 _), (trodAll_cons_mk (Below.trod laidOut (by kernel_rfl) (of_decide_eq_true (by kernel_rfl)) h0 bel lt0) (trodAll_cons_mk (Below.trod laidOut (by kernel_rfl) (of_decide_eq_true (by kernel_rfl)) h1 bel lt1) trodAll_mk0)), rfl, bel.frame _, fun h => by cases h⟩
theorem over : Rows.personDaysRow.holds Try.pinned (OpenSpec.ofChange Rows.personDaysSpec) :=
  OpenClaim.holds_of_wide 6 Try.f6 rfl rfl rfl rfl rfl rfl rfl ⟨rfl, rfl, rfl, rfl, rfl⟩ rfl rfl rfl rfl rfl (by kernel_rfl) Try.func6 (by kernel_rfl)
    (of_decide_eq_true (by kernel_rfl)) (by unfold Func.isWrapper; first | (rw [if_pos (by decide +kernel)]; kernel_rfl) | (rw [if_neg (by decide +kernel)]; exact ⟨rfl, rfl⟩))
    (fun os started H enc _ => lifted os started H enc)
theorem proved : Rows.PersonDaysSaid := over
#print axioms proved
end Go.Proofs.Ytcdcocnljnlkfaa.personDays
namespace Go.Proofs.Ytcdcocnljnlkfaa
/-- The row, under a short name, for the claim. -/
theorem personDays_holds : Rows.PersonDaysSaid := personDays.proved
end Go.Proofs.Ytcdcocnljnlkfaa
