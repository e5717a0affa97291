/- room.Shut: one of the times at which a room is shut meets a time. -/
import Derived.Test.YtdbbmnhaiejnjaaQ37
import Derived.Test.YtdbbmnhaiejnjaaECont
namespace Go.Proofs.Ytdbbmnhaiejnjaa.Q
open Go.RowKit Go.Proofs.YtdbbmnhaiejnjaaW.PrintWords Go.Proofs.YtdbbmnhaiejnjaaW.PrintLast Go.Proofs.YtdbbmnhaiejnjaaW.PrintMore
set_option linter.unusedVariables false
set_option linter.unusedSimpArgs false
theorem two_boxes (w : World) (o o2 : Obj) : ((w.alloc o).alloc o2).heap[w.heap.size + 1]? = some o2 := by
  have h := heap_alloc_new (w.alloc o) o2
  simpa using h
def meetq (w0 w1 w2 w3 : Int) (x : S38) : Option Bool := when_Meet.f x.f0 x.f1 x.f2 x.f3 w0 w1 w2 w3
def room_Shut.f (r0 : ByteArray) (r1 r2 : Int) (l : List S38) (w0 w1 w2 w3 : Int) : Option Bool := (idxf (meetq w0 w1 w2 w3) l 0).bind fun i => some (decide (0 ≤ i))
set_option maxHeartbeats 2000000 in
theorem shut1_calls (gb : Nat) (x : S38) (w0 w1 w2 w3 : Int) (b : Bool) (W : World) (hW : W.heap[gb]? = some (.cells #[.int .u32 w0, .int .u8 w1, .int .i64 w2, .int .i64 w3] 38 (0, 0)))
    (h : meetq w0 w1 w2 w3 x = some b) :
    Calls Try.prog 46 (#[.agg #[.int .u32 x.f0, .int .u8 x.f1, .int .i64 x.f2, .int .i64 x.f3]] ++ #[.pointer (some ⟨gb, 0, none⟩)]) W fun e w' => e = .returned (.bool b) ∧ Below W.heap.size W w' := by
  have hu := Try.underlying38
  have HM := Aside0.mk h
  clear h
  have hlt := blk_lt hW
  have c0 : W.cell? ⟨gb, 0, none⟩ = some (.int .u32 w0) := (blk_cell hW 0).trans rfl
  have c1 : W.cell? ⟨gb, 1, none⟩ = some (.int .u8 w1) := (blk_cell hW 1).trans rfl
  have c2 : W.cell? ⟨gb, 2, none⟩ = some (.int .i64 w2) := (blk_cell hW 2).trans rfl
  have c3 : W.cell? ⟨gb, 3, none⟩ = some (.int .i64 w3) := (blk_cell hW 3).trans rfl
  clear hW
  go_enter Try.func46, Try.ntmps46
  go_wp2_with (go_at_call 47; refine (when_Meet.calls x.f0 x.f1 x.f2 x.f3 w0 w1 w2 w3 b _ HM.out).mono ?_; rintro e w' ⟨rfl, hb'⟩)
  go_ret
  exact ⟨rfl, below_step (below_alloc (Below.refl _ _) _) hb'⟩
set_option maxHeartbeats 2000000 in
theorem room_Shut.calls (a0_0 : ByteArray) (a0_1 a0_2 : Int) (A0_3 : Option Addr) (c0_3 : Nat) (l0_3 : List S38) (a1_0 a1_1 a1_2 a1_3 : Int) (r : Bool) (w : World) (hr0_3 : Kd.C k38 w A0_3 l0_3.length l0_3) (hc0_3 : l0_3.length ≤ c0_3)
    (h : room_Shut.f a0_0 a0_1 a0_2 l0_3 a1_0 a1_1 a1_2 a1_3 = some r) :
    Calls Try.prog 22 #[.agg #[.string a0_0, .int .i64 a0_1, .int .u16 a0_2, .slice A0_3 l0_3.length c0_3], .agg #[.int .u32 a1_0, .int .u8 a1_1, .int .i64 a1_2, .int .i64 a1_3]] w fun e w' => e = .returned (.bool r) ∧ Below w.heap.size w w' := by
  have hu := Try.underlying38
  have hu2 := Try.underlying31
  unfold room_Shut.f at h
  obtain ⟨i, hi, hs⟩ := Option.bind_eq_some_iff.mp h
  obtain rfl := Option.some.inj hs
  clear h hs
  have HI := Aside0.mk hi
  have HR := Aside0.mk hr0_3
  clear hi hr0_3
  have ee : ∀ args w, (callFunc 46 args).run Try.prog w = .ok (.enter 46 args) w := fun _ _ => by kernel_rfl
  have EE := Aside0.mk ee
  clear ee
  go_enter Try.func22, Try.ntmps22
  go_wp2_with fail
  refine (containsFunc_calls 46 #[.pointer (some ⟨w.heap.size + 1, 0, none⟩)] (meetq a1_0 a1_1 a1_2 a1_3) A0_3 c0_3 l0_3 i _ (Kd.C_alloc (Kd.C_alloc HR.out _) _) EE.out
    (fun x b hb W hW => (shut1_calls (w.heap.size + 1) x a1_0 a1_1 a1_2 a1_3 b W ((hW.block _ (by simp)).trans (two_boxes _ _ _)) hb).mono fun e w' ⟨he, hb2⟩ => ⟨he, below_step hW hb2⟩) HI.out).mono ?_
  rintro e w' ⟨rfl, hb'⟩
  go_wp2
  go_ret
  exact ⟨rfl, below_step (below_alloc (below_alloc (Below.refl _ _) _) _) hb'⟩
end Go.Proofs.Ytdbbmnhaiejnjaa.Q
