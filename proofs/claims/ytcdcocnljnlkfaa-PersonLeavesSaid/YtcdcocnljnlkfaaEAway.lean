/- person.Away: one of the times at which a person is away meets a time. -/
import Derived.Test.YtcdcocnljnlkfaaQ6
import Derived.Test.YtcdcocnljnlkfaaECont
import Derived.Test.YtcdcocnljnlkfaaEBox
namespace Go.Proofs.Ytcdcocnljnlkfaa.Q
open Go.RowKit Go.Proofs.YtcdcocnljnlkfaaW.PrintWords Go.Proofs.YtcdcocnljnlkfaaW.PrintLast Go.Proofs.YtcdcocnljnlkfaaW.PrintMore
set_option linter.unusedVariables false
set_option linter.unusedSimpArgs false
def meetq (w0 w1 w2 w3 : Int) (x : S27) : Option Bool := when_Meet.f x.f0 x.f1 x.f2 x.f3 w0 w1 w2 w3
def person_Away.f (r0 : ByteArray) (l : List S27) (w0 w1 w2 w3 : Int) : Option Bool := (idxf (meetq w0 w1 w2 w3) l 0).bind fun i => some (decide (0 ≤ i))
set_option maxHeartbeats 2000000 in
theorem away1_calls (gb : Nat) (x : S27) (w0 w1 w2 w3 : Int) (b : Bool) (W : World) (hW : W.heap[gb]? = some (.cells #[.int .u32 w0, .int .u8 w1, .int .i64 w2, .int .i64 w3] 27 (0, 0)))
    (h : meetq w0 w1 w2 w3 x = some b) :
    Calls Try.prog 50 (#[.agg #[.int .u32 x.f0, .int .u8 x.f1, .int .i64 x.f2, .int .i64 x.f3]] ++ #[.pointer (some ⟨gb, 0, none⟩)]) W fun e w' => e = .returned (.bool b) ∧ Below W.heap.size W w' := by
  have hu := Try.underlying27
  have HM := Aside0.mk h
  clear h
  have hlt := blk_lt hW
  have c0 : W.cell? ⟨gb, 0, none⟩ = some (.int .u32 w0) := (blk_cell hW 0).trans rfl
  have c1 : W.cell? ⟨gb, 1, none⟩ = some (.int .u8 w1) := (blk_cell hW 1).trans rfl
  have c2 : W.cell? ⟨gb, 2, none⟩ = some (.int .i64 w2) := (blk_cell hW 2).trans rfl
  have c3 : W.cell? ⟨gb, 3, none⟩ = some (.int .i64 w3) := (blk_cell hW 3).trans rfl
  clear hW
  go_enter Try.func50, Try.ntmps50
  go_wp2_with (go_at_call 51; refine (when_Meet.calls x.f0 x.f1 x.f2 x.f3 w0 w1 w2 w3 b _ HM.out).mono ?_; rintro e w' ⟨rfl, hb'⟩)
  go_ret
  exact ⟨rfl, below_step (below_alloc (Below.refl _ _) _) hb'⟩
set_option maxHeartbeats 2000000 in
theorem person_Away.calls (a0_0 : ByteArray) (A0_1 : Option Addr) (c0_1 : Nat) (l0_1 : List S27) (a1_0 a1_1 a1_2 a1_3 : Int) (r : Bool) (w : World) (hr0_1 : Kd.C k27 w A0_1 l0_1.length l0_1) (hc0_1 : l0_1.length ≤ c0_1)
    (h : person_Away.f a0_0 l0_1 a1_0 a1_1 a1_2 a1_3 = some r) :
    Calls Try.prog 21 #[.agg #[.string a0_0, .slice A0_1 l0_1.length c0_1], .agg #[.int .u32 a1_0, .int .u8 a1_1, .int .i64 a1_2, .int .i64 a1_3]] w fun e w' => e = .returned (.bool r) ∧ Below w.heap.size w w' := by
  have hu := Try.underlying27
  have hu2 := Try.underlying24
  unfold person_Away.f at h
  obtain ⟨i, hi, hs⟩ := Option.bind_eq_some_iff.mp h
  obtain rfl := Option.some.inj hs
  clear h hs
  have HI := Aside0.mk hi
  have HR := Aside0.mk hr0_1
  clear hi hr0_1
  have ee : ∀ args w, (callFunc 50 args).run Try.prog w = .ok (.enter 50 args) w := fun _ _ => by kernel_rfl
  have EE := Aside0.mk ee
  clear ee
  go_enter Try.func21, Try.ntmps21
  go_wp2_with fail
  refine (containsFunc_calls 50 #[.pointer (some ⟨w.heap.size + 1, 0, none⟩)] (meetq a1_0 a1_1 a1_2 a1_3) A0_1 c0_1 l0_1 i _ (Kd.C_alloc (Kd.C_alloc HR.out _) _) EE.out
    (fun x b hb W hW => (away1_calls (w.heap.size + 1) x a1_0 a1_1 a1_2 a1_3 b W ((hW.block _ (by simp)).trans (two_boxes _ _ _)) hb).mono fun e w' ⟨he, hb2⟩ => ⟨he, below_step hW hb2⟩) HI.out).mono ?_
  rintro e w' ⟨rfl, hb'⟩
  go_wp2
  go_ret
  exact ⟨rfl, below_step (below_alloc (below_alloc (Below.refl _ _) _) _) hb'⟩
end Go.Proofs.Ytcdcocnljnlkfaa.Q
