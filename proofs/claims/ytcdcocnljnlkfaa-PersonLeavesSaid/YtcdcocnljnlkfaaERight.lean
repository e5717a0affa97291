/- room.Right: a grid, a name, seats, and times that may be. -/
import Derived.Test.YtcdcocnljnlkfaaQ2
import Derived.Test.YtcdcocnljnlkfaaQ4
import Derived.Test.YtcdcocnljnlkfaaECont
import Derived.Test.YtcdcocnljnlkfaaEBox
namespace Go.Proofs.Ytcdcocnljnlkfaa.Q
open Go.RowKit Go.Proofs.YtcdcocnljnlkfaaW.PrintWords Go.Proofs.YtcdcocnljnlkfaaW.PrintLast Go.Proofs.YtcdcocnljnlkfaaW.PrintMore
set_option linter.unusedVariables false
set_option linter.unusedSimpArgs false
def oddq (g0 g1 g2 : Int) (x : S27) : Option Bool := (when_Right.f g0 g1 g2 x.f0 x.f1 x.f2 x.f3).bind fun t => some (!t)
def room_Right.f (g0 g1 g2 : Int) (r0 : ByteArray) (r1 r2 : Int) (l : List S27) : Option Bool :=
  (when_RightGrid.f g0 g1 g2).bind fun t1 => if t1 = true then (room_Name.f r0).bind fun t2 => if t2 = true then
    (if 0 ≤ r1 then if r1 ≤ 10000 then if l.length ≤ 16 then (idxf (oddq g0 g1 g2) l 0).bind fun i => some (!decide (0 ≤ i)) else some false else some false else some false) else some false else some false
set_option maxHeartbeats 2000000 in
theorem right1_calls (gb : Nat) (x : S27) (g0 g1 g2 : Int) (b : Bool) (W : World) (hW : W.heap[gb]? = some (.cells #[.int .i64 g0, .int .i64 g1, .int .i64 g2] 39 (0, 0)))
    (h : oddq g0 g1 g2 x = some b) :
    Calls Try.prog 72 (#[.agg #[.int .u32 x.f0, .int .u8 x.f1, .int .i64 x.f2, .int .i64 x.f3]] ++ #[.pointer (some ⟨gb, 0, none⟩)]) W fun e w' => e = .returned (.bool b) ∧ Below W.heap.size W w' := by
  have hu := Try.underlying27
  have hu2 := Try.underlying39
  obtain ⟨t, ht, hs⟩ := Option.bind_eq_some_iff.mp h
  obtain rfl := Option.some.inj hs
  have HM := Aside0.mk ht
  clear h hs ht
  have hlt := blk_lt hW
  have c0 : W.cell? ⟨gb, 0, none⟩ = some (.int .i64 g0) := (blk_cell hW 0).trans rfl
  have c1 : W.cell? ⟨gb, 1, none⟩ = some (.int .i64 g1) := (blk_cell hW 1).trans rfl
  have c2 : W.cell? ⟨gb, 2, none⟩ = some (.int .i64 g2) := (blk_cell hW 2).trans rfl
  clear hW
  go_enter Try.func72, Try.ntmps72
  go_wp2_with (go_at_call 46; refine (when_Right.calls g0 g1 g2 x.f0 x.f1 x.f2 x.f3 t _ HM.out).mono ?_; rintro e w' ⟨rfl, hb'⟩)
  go_ret
  exact ⟨rfl, below_step (below_alloc (Below.refl _ _) _) hb'⟩
set_option maxHeartbeats 2000000 in
theorem room_Right.calls (a0_0 a0_1 a0_2 : Int) (a1_0 : ByteArray) (a1_1 a1_2 : Int) (A1_3 : Option Addr) (c1_3 : Nat) (l1_3 : List S27) (r : Bool) (w : World) (hr1_3 : Kd.C k27 w A1_3 l1_3.length l1_3) (hc1_3 : l1_3.length ≤ c1_3)
    (h : room_Right.f a0_0 a0_1 a0_2 a1_0 a1_1 a1_2 l1_3 = some r) :
    Calls Try.prog 69 #[.agg #[.int .i64 a0_0, .int .i64 a0_1, .int .i64 a0_2], .agg #[.string a1_0, .int .i64 a1_1, .int .u16 a1_2, .slice A1_3 l1_3.length c1_3]] w fun e w' => e = .returned (.bool r) ∧ Below w.heap.size w w' := by
  have hu := Try.underlying39
  have hu2 := Try.underlying69
  unfold room_Right.f at h
  obtain ⟨t1, h1, h⟩ := Option.bind_eq_some_iff.mp h
  have H1 := Aside0.mk h1
  clear h1
  have HR := Aside0.mk hr1_3
  clear hr1_3
  have ee : ∀ args w, (callFunc 72 args).run Try.prog w = .ok (.enter 72 args) w := fun _ _ => by kernel_rfl
  have EE := Aside0.mk ee
  clear ee
  cases t1 with
  | false =>
    simp only [Bool.false_eq_true, if_false] at h
    obtain rfl := Option.some.inj h
    clear h
    go_enter Try.func69, Try.ntmps69
    go_wp2_with (go_at_call 47; refine (when_RightGrid.calls a0_0 a0_1 a0_2 _ _ H1.out).mono ?_; rintro e w' ⟨rfl, hb1⟩)
    go_ret
    exact ⟨rfl, below_step (below_alloc (below_alloc (Below.refl _ _) _) _) hb1⟩
  | true =>
    simp only [if_true] at h
    obtain ⟨t2, h2, h⟩ := Option.bind_eq_some_iff.mp h
    have H2 := Aside0.mk h2
    clear h2
    cases t2 with
    | false =>
      simp only [Bool.false_eq_true, if_false] at h
      obtain rfl := Option.some.inj h
      clear h
      go_enter Try.func69, Try.ntmps69
      go_wp2_with (first | (go_at_call 47; refine (when_RightGrid.calls a0_0 a0_1 a0_2 _ _ H1.out).mono ?_; rintro e w1 ⟨rfl, hb1⟩; have HB1 := Aside0.mk hb1; obtain ⟨hc1, hf1⟩ := bcell hb1; clear hb1) | (go_at_call 48; refine (room_Name.calls a1_0 _ _ H2.out).mono ?_; rintro e w2 ⟨rfl, ⟨nd, rfl⟩⟩))
      go_ret
      exact ⟨rfl, pw_below_drewN (below_step (below_alloc (below_alloc (Below.refl _ _) _) _) HB1.out) _⟩
    | true =>
      simp only [if_true] at h
      by_cases p1 : 0 ≤ a1_1
      · have p1b : decide (0 ≤ a1_1) = true := decide_eq_true p1
        rw [if_pos p1] at h
        clear p1
        by_cases p2 : a1_1 ≤ 10000
        · have p2b : decide (a1_1 ≤ 10000) = true := decide_eq_true p2
          rw [if_pos p2] at h
          clear p2
          by_cases p3 : l1_3.length ≤ 16
          · have p3b : decide ((l1_3.length : Int) ≤ 16) = true := decide_eq_true (by omega)
            have p3c : decide (l1_3.length ≤ 16) = true := decide_eq_true p3
            rw [if_pos p3] at h
            obtain ⟨i, hi, hs⟩ := Option.bind_eq_some_iff.mp h
            obtain rfl := Option.some.inj hs
            have HI := Aside0.mk hi
            clear hi hs h p3
            go_enter Try.func69, Try.ntmps69
            go_wp2_with (first | (go_at_call 47; refine (when_RightGrid.calls a0_0 a0_1 a0_2 _ _ H1.out).mono ?_; rintro e w1 ⟨rfl, hb1⟩; have HB1 := Aside0.mk hb1; obtain ⟨hc1, hf1⟩ := bcell hb1; clear hb1) | (go_at_call 48; refine (room_Name.calls a1_0 _ _ H2.out).mono ?_; rintro e w2 ⟨rfl, ⟨nd, rfl⟩⟩) | (go_at_call 49; refine (containsFunc_calls 72 #[.pointer (some ⟨w.heap.size, 0, none⟩)] (oddq a0_0 a0_1 a0_2) A1_3 c1_3 l1_3 i _ (Kd.C_drewN (Kd.C_below (Kd.C_alloc (Kd.C_alloc HR.out _) _) HB1.out) _) EE.out (fun x b hb W hW => (right1_calls w.heap.size x a0_0 a0_1 a0_2 b W ((hW.block _ (Nat.lt_of_lt_of_le (lt2 _ _ _) HB1.out.size)).trans ((HB1.out.block _ (lt2 _ _ _)).trans (two_boxes0 _ _ _))) hb).mono fun e w' ⟨he, hb2⟩ => ⟨he, below_step hW hb2⟩) HI.out).mono ?_; rintro e w3 ⟨rfl, hb3⟩; have HB3 := Aside0.mk hb3; clear hb3))
            go_ret
            exact ⟨rfl, below_step (pw_below_drewN (below_step (below_alloc (below_alloc (Below.refl _ _) _) _) HB1.out) _) HB3.out⟩
          · have p3b : decide ((l1_3.length : Int) ≤ 16) = false := decide_eq_false (by omega)
            have p3c : decide (l1_3.length ≤ 16) = false := decide_eq_false p3
            rw [if_neg p3] at h
            obtain rfl := Option.some.inj h
            clear h p3
            go_enter Try.func69, Try.ntmps69
            go_wp2_with (first | (go_at_call 47; refine (when_RightGrid.calls a0_0 a0_1 a0_2 _ _ H1.out).mono ?_; rintro e w1 ⟨rfl, hb1⟩; have HB1 := Aside0.mk hb1; obtain ⟨hc1, hf1⟩ := bcell hb1; clear hb1) | (go_at_call 48; refine (room_Name.calls a1_0 _ _ H2.out).mono ?_; rintro e w2 ⟨rfl, ⟨nd, rfl⟩⟩))
            go_ret
            exact ⟨rfl, pw_below_drewN (below_step (below_alloc (below_alloc (Below.refl _ _) _) _) HB1.out) _⟩
        · have p2b : decide (a1_1 ≤ 10000) = false := decide_eq_false p2
          rw [if_neg p2] at h
          obtain rfl := Option.some.inj h
          clear h p2
          go_enter Try.func69, Try.ntmps69
          go_wp2_with (first | (go_at_call 47; refine (when_RightGrid.calls a0_0 a0_1 a0_2 _ _ H1.out).mono ?_; rintro e w1 ⟨rfl, hb1⟩; have HB1 := Aside0.mk hb1; obtain ⟨hc1, hf1⟩ := bcell hb1; clear hb1) | (go_at_call 48; refine (room_Name.calls a1_0 _ _ H2.out).mono ?_; rintro e w2 ⟨rfl, ⟨nd, rfl⟩⟩))
          go_ret
          exact ⟨rfl, pw_below_drewN (below_step (below_alloc (below_alloc (Below.refl _ _) _) _) HB1.out) _⟩
      · have p1b : decide (0 ≤ a1_1) = false := decide_eq_false p1
        rw [if_neg p1] at h
        obtain rfl := Option.some.inj h
        clear h p1
        go_enter Try.func69, Try.ntmps69
        go_wp2_with (first | (go_at_call 47; refine (when_RightGrid.calls a0_0 a0_1 a0_2 _ _ H1.out).mono ?_; rintro e w1 ⟨rfl, hb1⟩; have HB1 := Aside0.mk hb1; obtain ⟨hc1, hf1⟩ := bcell hb1; clear hb1) | (go_at_call 48; refine (room_Name.calls a1_0 _ _ H2.out).mono ?_; rintro e w2 ⟨rfl, ⟨nd, rfl⟩⟩))
        go_ret
        exact ⟨rfl, pw_below_drewN (below_step (below_alloc (below_alloc (Below.refl _ _) _) _) HB1.out) _⟩
end Go.Proofs.Ytcdcocnljnlkfaa.Q
