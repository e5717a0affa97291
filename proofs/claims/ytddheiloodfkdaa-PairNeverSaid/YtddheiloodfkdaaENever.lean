-- Written by a program of this claim's prover; Lean checks it.
import Derived.Test.YtddheiloodfkdaaQ0
import Derived.Test.YtddheiloodfkdaaQ1
import Derived.Test.YtddheiloodfkdaaQ8
import Derived.Test.YtddheiloodfkdaaQ9
import Derived.Test.YtddheiloodfkdaaQ13
import Derived.Test.YtddheiloodfkdaaQ15
import Derived.Test.YtddheiloodfkdaaQ35
import Derived.Test.YtddheiloodfkdaaENeverD
namespace Go.Proofs.Ytddheiloodfkdaa.Q
open Go.RowKit Go.Proofs.YtddheiloodfkdaaW.PrintWords Go.Proofs.YtddheiloodfkdaaW.PrintLast Go.Proofs.YtddheiloodfkdaaW.PrintMore
attribute [local go_sem] max2_int min2_int max_two min_two max_three min_three max_four min_four   -- for this text's walks alone
set_option linter.unusedVariables false
set_option linter.unusedSimpArgs false
set_option maxHeartbeats 8000000 in
set_option maxRecDepth 100000 in
theorem horariumlaw15_PairNever.calls (k : Nat) (a0_0 : Int) (a0_1 : Int) (a0_2 : Int) (a1 : Int) (a2 : Int) (a3_0 : Int) (a3_1 : Int) (a3_2 : Int) (a3_3 : Int) (a3_4 : Int) (a4_0 : Int) (a4_1 : Int) (a4_2 : Int) (a4_3 : Int) (a4_4 : Int) (a5 : Int) (r : Bool) (w : World) (HR : Aside0 (r = true)) (h : horariumlaw15_PairNever.f k a0_0 a0_1 a0_2 a1 a2 a3_0 a3_1 a3_2 a3_3 a3_4 a4_0 a4_1 a4_2 a4_3 a4_4 a5 = some r) :
  Calls Try.prog 5 #[.agg #[.int .i64 a0_0, .int .i64 a0_1, .int .i64 a0_2], .int .i64 a1, .int .i64 a2, .agg #[.int .u32 a3_0, .int .u8 a3_1, .int .i64 a3_2, .int .i64 a3_3, .int .i64 a3_4], .agg #[.int .u32 a4_0, .int .u8 a4_1, .int .i64 a4_2, .int .i64 a4_3, .int .i64 a4_4], .int .i64 a5] w fun e w' => e = .returned (.bool r) ∧ Below w.heap.size w w' := by
 have hu23 := Try.underlying23
 have hu28 := Try.underlying28
 have hu26 := Try.underlying26
 have HB := Aside0.mk (Below.refl w.heap.size w)
 have H : ((horariumlaw15_tame.f a3_0 a3_1 a3_2 a3_3 a3_4 a4_0 a4_1 a4_2 a4_3 a4_4).bind fun t414 => (if t414 = true then ((horariumref09_Right.f k a0_0 a0_1 a0_2 a3_0 a3_1 a3_2 a3_3).bind fun t415 => (if t415 = true then ((horariumref09_Right.f k a0_0 a0_1 a0_2 a4_0 a4_1 a4_2 a4_3).bind fun t416 => (horariumlaw15_PairNever.j0 k a1 a2 a5 (!t416) a0_0 a0_1 a0_2 a3_0 a3_1 a3_2 a3_3 a3_4 a4_0 a4_1 a4_2 a4_3 a4_4)) else (horariumlaw15_PairNever.j0 k a1 a2 a5 true a0_0 a0_1 a0_2 a3_0 a3_1 a3_2 a3_3 a3_4 a4_0 a4_1 a4_2 a4_3 a4_4))) else (horariumlaw15_PairNever.j0 k a1 a2 a5 true a0_0 a0_1 a0_2 a3_0 a3_1 a3_2 a3_3 a3_4 a4_0 a4_1 a4_2 a4_3 a4_4))) = some r := h
 clear h
 have HC7 := Aside0.mk H
 clear H
 go_enter Try.func5, Try.ntmps5
 go_upto_region 1 with (first | ((with_reducible refine gate_dst (N := 6) rfl ?_); refine box_event ?hg (N := 6) ?hd (cs := #[.int .i64 a0_0, .int .i64 a0_1, .int .i64 a0_2]) (t := 23) ?hr ?_; (case hd => rfl); (case hg => rfl); (case hr => first | (go_simp; done) | (go_simp; rfl)); intro gb411 hg w8 hbox hb; have n0_ := Aside0.mk (below_step (by repeat (first | (with_reducible first | exact HB.out | apply below_alloc | apply pw_below_drewN | apply below_drew1) | exact HB.out)) hb); have n1_ := Aside0.mk (hbox); have n2_ := Aside0.mk ((by rw [hg]; exact (below_size (by repeat (first | (with_reducible first | exact HB.out | apply below_alloc | apply pw_below_drewN | apply below_drew1) | exact HB.out))) : w.heap.size ≤ gb411)); have n3_ := Aside0.mk ((by rw [hg]; exact (below_size (by repeat (first | (with_reducible first | exact HB.out | apply below_alloc | apply pw_below_drewN | apply below_drew1) | exact HB.out))) : w.heap.size ≤ gb411)); clear HB; have HB := n0_; have BK411 := n1_; have GW411 := n2_; have GE411 := n3_; clear n0_ n1_ n2_ n3_; clear hb hbox hg) | ((with_reducible refine gate_dst (N := 9) rfl ?_); refine box_event ?hg (N := 9) ?hd (cs := #[.int .u32 a3_0, .int .u8 a3_1, .int .i64 a3_2, .int .i64 a3_3, .int .i64 a3_4]) (t := 28) ?hr ?_; (case hd => rfl); (case hg => rfl); (case hr => first | (go_simp; done) | (go_simp; rfl)); intro gb412 hg w9 hbox hb; have n0_ := Aside0.mk (blk_below (g := gb411) (o := .cells #[.int .i64 a0_0, .int .i64 a0_1, .int .i64 a0_2] 23 (0, 0)) (by (with_reducible repeat (first | refine blk_drewN ?_ _ | refine blk_drew ?_ | refine blk_alloc ?_ _)); exact BK411.out) hb); have n1_ := Aside0.mk (below_step (by repeat (first | (with_reducible first | exact HB.out | apply below_alloc | apply pw_below_drewN | apply below_drew1 | refine below_set ?_ GE411.out) | exact HB.out)) hb); have n2_ := Aside0.mk (hbox); have n3_ := Aside0.mk ((by rw [hg]; exact (below_size (by repeat (first | (with_reducible first | exact HB.out | apply below_alloc | apply pw_below_drewN | apply below_drew1 | refine below_set ?_ GE411.out) | exact HB.out))) : w.heap.size ≤ gb412)); have n4_ := Aside0.mk ((by rw [hg]; exact (below_size (by repeat (first | (with_reducible first | exact HB.out | apply below_alloc | apply pw_below_drewN | apply below_drew1 | refine below_set ?_ GE411.out) | exact HB.out))) : w.heap.size ≤ gb412)); have n5_ := Aside0.mk ((by rw [hg]; exact Nat.ne_of_lt (blk_lt (g := gb411) (o := .cells #[.int .i64 a0_0, .int .i64 a0_1, .int .i64 a0_2] 23 (0, 0)) (by (with_reducible repeat (first | refine blk_drewN ?_ _ | refine blk_drew ?_ | refine blk_alloc ?_ _)); exact BK411.out)) : gb411 ≠ gb412)); have n6_ := Aside0.mk ((by rw [hg]; exact Nat.ne_of_gt (blk_lt (g := gb411) (o := .cells #[.int .i64 a0_0, .int .i64 a0_1, .int .i64 a0_2] 23 (0, 0)) (by (with_reducible repeat (first | refine blk_drewN ?_ _ | refine blk_drew ?_ | refine blk_alloc ?_ _)); exact BK411.out)) : gb412 ≠ gb411)); clear BK411; clear HB; have BK411 := n0_; have HB := n1_; have BK412 := n2_; have GW412 := n3_; have GE412 := n4_; have NB411_412 := n5_; have NB412_411 := n6_; clear n0_ n1_ n2_ n3_ n4_ n5_ n6_; clear hb hbox hg) | ((with_reducible refine gate_dst (N := 10) rfl ?_); refine box_event ?hg (N := 10) ?hd (cs := #[.int .u32 a4_0, .int .u8 a4_1, .int .i64 a4_2, .int .i64 a4_3, .int .i64 a4_4]) (t := 28) ?hr ?_; (case hd => rfl); (case hg => rfl); (case hr => first | (go_simp; done) | (go_simp; rfl)); intro gb413 hg w10 hbox hb; have n0_ := Aside0.mk (blk_below (g := gb411) (o := .cells #[.int .i64 a0_0, .int .i64 a0_1, .int .i64 a0_2] 23 (0, 0)) (by (with_reducible repeat (first | refine blk_drewN ?_ _ | refine blk_drew ?_ | refine blk_alloc ?_ _)); exact BK411.out) hb); have n1_ := Aside0.mk (blk_below (g := gb412) (o := .cells #[.int .u32 a3_0, .int .u8 a3_1, .int .i64 a3_2, .int .i64 a3_3, .int .i64 a3_4] 28 (0, 0)) (by (with_reducible repeat (first | refine blk_drewN ?_ _ | refine blk_drew ?_ | refine blk_alloc ?_ _)); exact BK412.out) hb); have n2_ := Aside0.mk (below_step (by repeat (first | (with_reducible first | exact HB.out | apply below_alloc | apply pw_below_drewN | apply below_drew1 | refine below_set ?_ GE411.out | refine below_set ?_ GE412.out) | exact HB.out)) hb); have n3_ := Aside0.mk (hbox); have n4_ := Aside0.mk ((by rw [hg]; exact (below_size (by repeat (first | (with_reducible first | exact HB.out | apply below_alloc | apply pw_below_drewN | apply below_drew1 | refine below_set ?_ GE411.out | refine below_set ?_ GE412.out) | exact HB.out))) : w.heap.size ≤ gb413)); have n5_ := Aside0.mk ((by rw [hg]; exact (below_size (by repeat (first | (with_reducible first | exact HB.out | apply below_alloc | apply pw_below_drewN | apply below_drew1 | refine below_set ?_ GE411.out | refine below_set ?_ GE412.out) | exact HB.out))) : w.heap.size ≤ gb413)); have n6_ := Aside0.mk ((by rw [hg]; exact Nat.ne_of_lt (blk_lt (g := gb411) (o := .cells #[.int .i64 a0_0, .int .i64 a0_1, .int .i64 a0_2] 23 (0, 0)) (by (with_reducible repeat (first | refine blk_drewN ?_ _ | refine blk_drew ?_ | refine blk_alloc ?_ _)); exact BK411.out)) : gb411 ≠ gb413)); have n7_ := Aside0.mk ((by rw [hg]; exact Nat.ne_of_gt (blk_lt (g := gb411) (o := .cells #[.int .i64 a0_0, .int .i64 a0_1, .int .i64 a0_2] 23 (0, 0)) (by (with_reducible repeat (first | refine blk_drewN ?_ _ | refine blk_drew ?_ | refine blk_alloc ?_ _)); exact BK411.out)) : gb413 ≠ gb411)); have n8_ := Aside0.mk ((by rw [hg]; exact Nat.ne_of_lt (blk_lt (g := gb412) (o := .cells #[.int .u32 a3_0, .int .u8 a3_1, .int .i64 a3_2, .int .i64 a3_3, .int .i64 a3_4] 28 (0, 0)) (by (with_reducible repeat (first | refine blk_drewN ?_ _ | refine blk_drew ?_ | refine blk_alloc ?_ _)); exact BK412.out)) : gb412 ≠ gb413)); have n9_ := Aside0.mk ((by rw [hg]; exact Nat.ne_of_gt (blk_lt (g := gb412) (o := .cells #[.int .u32 a3_0, .int .u8 a3_1, .int .i64 a3_2, .int .i64 a3_3, .int .i64 a3_4] 28 (0, 0)) (by (with_reducible repeat (first | refine blk_drewN ?_ _ | refine blk_drew ?_ | refine blk_alloc ?_ _)); exact BK412.out)) : gb413 ≠ gb412)); clear BK411; clear BK412; clear HB; have BK411 := n0_; have BK412 := n1_; have HB := n2_; have BK413 := n3_; have GW413 := n4_; have GE413 := n5_; have NB411_413 := n6_; have NB413_411 := n7_; have NB412_413 := n8_; have NB413_412 := n9_; clear n0_ n1_ n2_ n3_ n4_ n5_ n6_ n7_ n8_ n9_; clear hb hbox hg))
 (try simp only [Act.put, List.setIfInBounds_toArray, List.set_cons_zero, List.set_cons_succ])
 go_cut [35] (fun v35 wc => ∃ (kq : Nat) (x35_6 : Bool), v35 = .bool x35_6 ∧ Aside0 (horariumlaw15_PairNever.j0 kq a1 a2 a5 x35_6 a0_0 a0_1 a0_2 a3_0 a3_1 a3_2 a3_3 a3_4 a4_0 a4_1 a4_2 a4_3 a4_4 = some r) ∧ Aside0 (kq ≤ k) ∧ Aside0 (wc.heap[gb411]? = some (.cells #[.int .i64 a0_0, .int .i64 a0_1, .int .i64 a0_2] 23 (0, 0))) ∧ Aside0 (wc.heap[gb412]? = some (.cells #[.int .u32 a3_0, .int .u8 a3_1, .int .i64 a3_2, .int .i64 a3_3, .int .i64 a3_4] 28 (0, 0))) ∧ Aside0 (wc.heap[gb413]? = some (.cells #[.int .u32 a4_0, .int .u8 a4_1, .int .i64 a4_2, .int .i64 a4_3, .int .i64 a4_4] 28 (0, 0))) ∧ Aside0 (Below w.heap.size w wc))
 case first =>
  have H := HC7.out
  clear HC7
  replace H := Option.bind_eq_some_iff.mp H
  obtain ⟨t414, A110, H⟩ := H
  replace H : (if t414 = true then ((horariumref09_Right.f k a0_0 a0_1 a0_2 a3_0 a3_1 a3_2 a3_3).bind fun t415 => (if t415 = true then ((horariumref09_Right.f k a0_0 a0_1 a0_2 a4_0 a4_1 a4_2 a4_3).bind fun t416 => (horariumlaw15_PairNever.j0 k a1 a2 a5 (!t416) a0_0 a0_1 a0_2 a3_0 a3_1 a3_2 a3_3 a3_4 a4_0 a4_1 a4_2 a4_3 a4_4)) else (horariumlaw15_PairNever.j0 k a1 a2 a5 true a0_0 a0_1 a0_2 a3_0 a3_1 a3_2 a3_3 a3_4 a4_0 a4_1 a4_2 a4_3 a4_4))) else (horariumlaw15_PairNever.j0 k a1 a2 a5 true a0_0 a0_1 a0_2 a3_0 a3_1 a3_2 a3_3 a3_4 a4_0 a4_1 a4_2 a4_3 a4_4)) = some r := H
  have A11 := Aside0.mk A110
  clear A110
  by_cases c12 : t414 = true
  ·
   subst c12
   have H1 : ((horariumref09_Right.f k a0_0 a0_1 a0_2 a3_0 a3_1 a3_2 a3_3).bind fun t415 => (if t415 = true then ((horariumref09_Right.f k a0_0 a0_1 a0_2 a4_0 a4_1 a4_2 a4_3).bind fun t416 => (horariumlaw15_PairNever.j0 k a1 a2 a5 (!t416) a0_0 a0_1 a0_2 a3_0 a3_1 a3_2 a3_3 a3_4 a4_0 a4_1 a4_2 a4_3 a4_4)) else (horariumlaw15_PairNever.j0 k a1 a2 a5 true a0_0 a0_1 a0_2 a3_0 a3_1 a3_2 a3_3 a3_4 a4_0 a4_1 a4_2 a4_3 a4_4))) = some r := by rw [if_pos rfl] at H; exact H
   clear H
   have H := H1
   clear H1
   replace H := Option.bind_eq_some_iff.mp H
   obtain ⟨t415, A130, H⟩ := H
   replace H : (if t415 = true then ((horariumref09_Right.f k a0_0 a0_1 a0_2 a4_0 a4_1 a4_2 a4_3).bind fun t416 => (horariumlaw15_PairNever.j0 k a1 a2 a5 (!t416) a0_0 a0_1 a0_2 a3_0 a3_1 a3_2 a3_3 a3_4 a4_0 a4_1 a4_2 a4_3 a4_4)) else (horariumlaw15_PairNever.j0 k a1 a2 a5 true a0_0 a0_1 a0_2 a3_0 a3_1 a3_2 a3_3 a3_4 a4_0 a4_1 a4_2 a4_3 a4_4)) = some r := H
   have A13 := Aside0.mk A130
   clear A130
   by_cases c14 : t415 = true
   ·
    subst c14
    have H1 : ((horariumref09_Right.f k a0_0 a0_1 a0_2 a4_0 a4_1 a4_2 a4_3).bind fun t416 => (horariumlaw15_PairNever.j0 k a1 a2 a5 (!t416) a0_0 a0_1 a0_2 a3_0 a3_1 a3_2 a3_3 a3_4 a4_0 a4_1 a4_2 a4_3 a4_4)) = some r := by rw [if_pos rfl] at H; exact H
    clear H
    have H := H1
    clear H1
    replace H := Option.bind_eq_some_iff.mp H
    obtain ⟨t416, A150, H⟩ := H
    replace H : (horariumlaw15_PairNever.j0 k a1 a2 a5 (!t416) a0_0 a0_1 a0_2 a3_0 a3_1 a3_2 a3_3 a3_4 a4_0 a4_1 a4_2 a4_3 a4_4) = some r := H
    have A15 := Aside0.mk A150
    clear A150
    have H' := Aside0.mk H
    clear H
    have hnb16 := NB412_411.out
    have hnc16 := NB411_412.out
    have hnb17 := NB412_413.out
    have hnc17 := NB413_412.out
    have hcz18_0 : w10.cell? ⟨gb412, 0, none⟩ = some (.int .u32 a3_0) := (blk_cell BK412.out 0).trans rfl
    have hcz18_1 : w10.cell? ⟨gb412, 1, none⟩ = some (.int .u8 a3_1) := (blk_cell BK412.out 1).trans rfl
    have hcz18_2 : w10.cell? ⟨gb412, 2, none⟩ = some (.int .i64 a3_2) := (blk_cell BK412.out 2).trans rfl
    have hcz18_3 : w10.cell? ⟨gb412, 3, none⟩ = some (.int .i64 a3_3) := (blk_cell BK412.out 3).trans rfl
    have hcz18_4 : w10.cell? ⟨gb412, 4, none⟩ = some (.int .i64 a3_4) := (blk_cell BK412.out 4).trans rfl
    have hfz18_0 := blk_frozen BK412.out 0
    have hfz18_1 := blk_frozen BK412.out 1
    have hfz18_2 := blk_frozen BK412.out 2
    have hfz18_3 := blk_frozen BK412.out 3
    have hfz18_4 := blk_frozen BK412.out 4
    have hnb19 := NB413_411.out
    have hnc19 := NB411_413.out
    have hcz20_0 : w10.cell? ⟨gb413, 0, none⟩ = some (.int .u32 a4_0) := (blk_cell BK413.out 0).trans rfl
    have hcz20_1 : w10.cell? ⟨gb413, 1, none⟩ = some (.int .u8 a4_1) := (blk_cell BK413.out 1).trans rfl
    have hcz20_2 : w10.cell? ⟨gb413, 2, none⟩ = some (.int .i64 a4_2) := (blk_cell BK413.out 2).trans rfl
    have hcz20_3 : w10.cell? ⟨gb413, 3, none⟩ = some (.int .i64 a4_3) := (blk_cell BK413.out 3).trans rfl
    have hcz20_4 : w10.cell? ⟨gb413, 4, none⟩ = some (.int .i64 a4_4) := (blk_cell BK413.out 4).trans rfl
    have hfz20_0 := blk_frozen BK413.out 0
    have hfz20_1 := blk_frozen BK413.out 1
    have hfz20_2 := blk_frozen BK413.out 2
    have hfz20_3 := blk_frozen BK413.out 3
    have hfz20_4 := blk_frozen BK413.out 4
    go_wp2_with (first | ((with_reducible refine gate_callee (f := 13) rfl ?_); refine goesL_ (some 20) rfl rfl Try.func13 (by kernel_rfl) rfl #[.agg #[.int .u32 a3_0, .int .u8 a3_1, .int .i64 a3_2, .int .i64 a3_3, .int .i64 a3_4], .agg #[.int .u32 a4_0, .int .u8 a4_1, .int .i64 a4_2, .int .i64 a4_3, .int .i64 a4_4]] rfl (by (try simp only [List.map_toArray, List.map_cons, List.map_nil]); first | done | rfl | (simp only [List.length_drop, List.length_take]; rfl)) ?_; (with_reducible refine (horariumlaw15_tame.calls a3_0 a3_1 a3_2 a3_3 a3_4 a4_0 a4_1 a4_2 a4_3 a4_4 true _ A11.out).mono ?_); rintro e w21 ⟨rfl, hb⟩; refine ⟨_, rfl, ?_⟩; have n0_ := Aside0.mk (blk_below (g := gb411) (o := .cells #[.int .i64 a0_0, .int .i64 a0_1, .int .i64 a0_2] 23 (0, 0)) (by (with_reducible repeat (first | refine blk_drewN ?_ _ | refine blk_drew ?_ | refine blk_alloc ?_ _)); exact BK411.out) hb); have n1_ := Aside0.mk (blk_below (g := gb412) (o := .cells #[.int .u32 a3_0, .int .u8 a3_1, .int .i64 a3_2, .int .i64 a3_3, .int .i64 a3_4] 28 (0, 0)) (by (with_reducible repeat (first | refine blk_drewN ?_ _ | refine blk_drew ?_ | refine blk_alloc ?_ _)); exact BK412.out) hb); have n2_ := Aside0.mk (blk_below (g := gb413) (o := .cells #[.int .u32 a4_0, .int .u8 a4_1, .int .i64 a4_2, .int .i64 a4_3, .int .i64 a4_4] 28 (0, 0)) (by (with_reducible repeat (first | refine blk_drewN ?_ _ | refine blk_drew ?_ | refine blk_alloc ?_ _)); exact BK413.out) hb); have n3_ := Aside0.mk (below_step (by repeat (first | (with_reducible first | exact HB.out | apply below_alloc | apply pw_below_drewN | apply below_drew1 | refine below_set ?_ GE411.out | refine below_set ?_ GE412.out | refine below_set ?_ GE413.out) | exact HB.out)) hb); clear BK411; clear BK412; clear BK413; clear HB; have BK411 := n0_; have BK412 := n1_; have BK413 := n2_; have HB := n3_; clear n0_ n1_ n2_ n3_; (try clear hb); (try clear hb2); (try clear hk); (try clear hi); have hcz22_0 : w21.cell? ⟨gb411, 0, none⟩ = some (.int .i64 a0_0) := (blk_cell BK411.out 0).trans rfl; have hcz22_1 : w21.cell? ⟨gb411, 1, none⟩ = some (.int .i64 a0_1) := (blk_cell BK411.out 1).trans rfl; have hcz22_2 : w21.cell? ⟨gb411, 2, none⟩ = some (.int .i64 a0_2) := (blk_cell BK411.out 2).trans rfl; have hfz22_0 := blk_frozen BK411.out 0; have hfz22_1 := blk_frozen BK411.out 1; have hfz22_2 := blk_frozen BK411.out 2; have hcz23_0 : w21.cell? ⟨gb412, 0, none⟩ = some (.int .u32 a3_0) := (blk_cell BK412.out 0).trans rfl; have hcz23_1 : w21.cell? ⟨gb412, 1, none⟩ = some (.int .u8 a3_1) := (blk_cell BK412.out 1).trans rfl; have hcz23_2 : w21.cell? ⟨gb412, 2, none⟩ = some (.int .i64 a3_2) := (blk_cell BK412.out 2).trans rfl; have hcz23_3 : w21.cell? ⟨gb412, 3, none⟩ = some (.int .i64 a3_3) := (blk_cell BK412.out 3).trans rfl; have hcz23_4 : w21.cell? ⟨gb412, 4, none⟩ = some (.int .i64 a3_4) := (blk_cell BK412.out 4).trans rfl; have hfz23_0 := blk_frozen BK412.out 0; have hfz23_1 := blk_frozen BK412.out 1; have hfz23_2 := blk_frozen BK412.out 2; have hfz23_3 := blk_frozen BK412.out 3; have hfz23_4 := blk_frozen BK412.out 4) | (go_at_call 14; (with_reducible refine (horariumref09_Right.calls k a0_0 a0_1 a0_2 a3_0 a3_1 a3_2 a3_3 true _ A13.out).mono ?_); rintro e w24 ⟨rfl, hb⟩; have n0_ := Aside0.mk (blk_below (g := gb411) (o := .cells #[.int .i64 a0_0, .int .i64 a0_1, .int .i64 a0_2] 23 (0, 0)) (by (with_reducible repeat (first | refine blk_drewN ?_ _ | refine blk_drew ?_ | refine blk_alloc ?_ _)); exact BK411.out) hb); have n1_ := Aside0.mk (blk_below (g := gb412) (o := .cells #[.int .u32 a3_0, .int .u8 a3_1, .int .i64 a3_2, .int .i64 a3_3, .int .i64 a3_4] 28 (0, 0)) (by (with_reducible repeat (first | refine blk_drewN ?_ _ | refine blk_drew ?_ | refine blk_alloc ?_ _)); exact BK412.out) hb); have n2_ := Aside0.mk (blk_below (g := gb413) (o := .cells #[.int .u32 a4_0, .int .u8 a4_1, .int .i64 a4_2, .int .i64 a4_3, .int .i64 a4_4] 28 (0, 0)) (by (with_reducible repeat (first | refine blk_drewN ?_ _ | refine blk_drew ?_ | refine blk_alloc ?_ _)); exact BK413.out) hb); have n3_ := Aside0.mk (below_step (by repeat (first | (with_reducible first | exact HB.out | apply below_alloc | apply pw_below_drewN | apply below_drew1 | refine below_set ?_ GE411.out | refine below_set ?_ GE412.out | refine below_set ?_ GE413.out) | exact HB.out)) hb); clear BK411; clear BK412; clear BK413; clear HB; have BK411 := n0_; have BK412 := n1_; have BK413 := n2_; have HB := n3_; clear n0_ n1_ n2_ n3_; (try clear hb); (try clear hb2); (try clear hk); (try clear hi); have hcz25_0 : w24.cell? ⟨gb411, 0, none⟩ = some (.int .i64 a0_0) := (blk_cell BK411.out 0).trans rfl; have hcz25_1 : w24.cell? ⟨gb411, 1, none⟩ = some (.int .i64 a0_1) := (blk_cell BK411.out 1).trans rfl; have hcz25_2 : w24.cell? ⟨gb411, 2, none⟩ = some (.int .i64 a0_2) := (blk_cell BK411.out 2).trans rfl; have hfz25_0 := blk_frozen BK411.out 0; have hfz25_1 := blk_frozen BK411.out 1; have hfz25_2 := blk_frozen BK411.out 2; have hcz26_0 : w24.cell? ⟨gb413, 0, none⟩ = some (.int .u32 a4_0) := (blk_cell BK413.out 0).trans rfl; have hcz26_1 : w24.cell? ⟨gb413, 1, none⟩ = some (.int .u8 a4_1) := (blk_cell BK413.out 1).trans rfl; have hcz26_2 : w24.cell? ⟨gb413, 2, none⟩ = some (.int .i64 a4_2) := (blk_cell BK413.out 2).trans rfl; have hcz26_3 : w24.cell? ⟨gb413, 3, none⟩ = some (.int .i64 a4_3) := (blk_cell BK413.out 3).trans rfl; have hcz26_4 : w24.cell? ⟨gb413, 4, none⟩ = some (.int .i64 a4_4) := (blk_cell BK413.out 4).trans rfl; have hfz26_0 := blk_frozen BK413.out 0; have hfz26_1 := blk_frozen BK413.out 1; have hfz26_2 := blk_frozen BK413.out 2; have hfz26_3 := blk_frozen BK413.out 3; have hfz26_4 := blk_frozen BK413.out 4) | (go_at_call 14; (with_reducible refine (horariumref09_Right.calls k a0_0 a0_1 a0_2 a4_0 a4_1 a4_2 a4_3 t416 _ A15.out).mono ?_); rintro e w27 ⟨rfl, hb⟩; have n0_ := Aside0.mk (blk_below (g := gb411) (o := .cells #[.int .i64 a0_0, .int .i64 a0_1, .int .i64 a0_2] 23 (0, 0)) (by (with_reducible repeat (first | refine blk_drewN ?_ _ | refine blk_drew ?_ | refine blk_alloc ?_ _)); exact BK411.out) hb); have n1_ := Aside0.mk (blk_below (g := gb412) (o := .cells #[.int .u32 a3_0, .int .u8 a3_1, .int .i64 a3_2, .int .i64 a3_3, .int .i64 a3_4] 28 (0, 0)) (by (with_reducible repeat (first | refine blk_drewN ?_ _ | refine blk_drew ?_ | refine blk_alloc ?_ _)); exact BK412.out) hb); have n2_ := Aside0.mk (blk_below (g := gb413) (o := .cells #[.int .u32 a4_0, .int .u8 a4_1, .int .i64 a4_2, .int .i64 a4_3, .int .i64 a4_4] 28 (0, 0)) (by (with_reducible repeat (first | refine blk_drewN ?_ _ | refine blk_drew ?_ | refine blk_alloc ?_ _)); exact BK413.out) hb); have n3_ := Aside0.mk (below_step (by repeat (first | (with_reducible first | exact HB.out | apply below_alloc | apply pw_below_drewN | apply below_drew1 | refine below_set ?_ GE411.out | refine below_set ?_ GE412.out | refine below_set ?_ GE413.out) | exact HB.out)) hb); clear BK411; clear BK412; clear BK413; clear HB; have BK411 := n0_; have BK412 := n1_; have BK413 := n2_; have HB := n3_; clear n0_ n1_ n2_ n3_; (try clear hb); (try clear hb2); (try clear hk); (try clear hi)))
    go_meet
    case rel => exact ⟨_, (!t416), (by first | rfl | (simp; done) | (simp [*]; done)), H', ⟨by first | omega | exact Nat.le_refl _⟩, ⟨by (with_reducible repeat (first | refine blk_drewN ?_ _ | refine blk_drew ?_ | refine blk_alloc ?_ _)); exact BK411.out⟩, ⟨by (with_reducible repeat (first | refine blk_drewN ?_ _ | refine blk_drew ?_ | refine blk_alloc ?_ _)); exact BK412.out⟩, ⟨by (with_reducible repeat (first | refine blk_drewN ?_ _ | refine blk_drew ?_ | refine blk_alloc ?_ _)); exact BK413.out⟩, ⟨by repeat (first | (with_reducible first | exact HB.out | apply below_alloc | apply pw_below_drewN | apply below_drew1 | refine below_set ?_ GE411.out | refine below_set ?_ GE412.out | refine below_set ?_ GE413.out) | exact HB.out)⟩⟩
   ·
    replace c14 := Bool.eq_false_iff.mpr c14
    subst c14
    have H1 : (horariumlaw15_PairNever.j0 k a1 a2 a5 true a0_0 a0_1 a0_2 a3_0 a3_1 a3_2 a3_3 a3_4 a4_0 a4_1 a4_2 a4_3 a4_4) = some r := by rw [if_neg (show ¬ (false = true) by decide)] at H; exact H
    clear H
    have H := H1
    clear H1
    have H' := Aside0.mk H
    clear H
    have hnb28 := NB412_411.out
    have hnc28 := NB411_412.out
    have hnb29 := NB412_413.out
    have hnc29 := NB413_412.out
    have hcz30_0 : w10.cell? ⟨gb412, 0, none⟩ = some (.int .u32 a3_0) := (blk_cell BK412.out 0).trans rfl
    have hcz30_1 : w10.cell? ⟨gb412, 1, none⟩ = some (.int .u8 a3_1) := (blk_cell BK412.out 1).trans rfl
    have hcz30_2 : w10.cell? ⟨gb412, 2, none⟩ = some (.int .i64 a3_2) := (blk_cell BK412.out 2).trans rfl
    have hcz30_3 : w10.cell? ⟨gb412, 3, none⟩ = some (.int .i64 a3_3) := (blk_cell BK412.out 3).trans rfl
    have hcz30_4 : w10.cell? ⟨gb412, 4, none⟩ = some (.int .i64 a3_4) := (blk_cell BK412.out 4).trans rfl
    have hfz30_0 := blk_frozen BK412.out 0
    have hfz30_1 := blk_frozen BK412.out 1
    have hfz30_2 := blk_frozen BK412.out 2
    have hfz30_3 := blk_frozen BK412.out 3
    have hfz30_4 := blk_frozen BK412.out 4
    have hnb31 := NB413_411.out
    have hnc31 := NB411_413.out
    have hcz32_0 : w10.cell? ⟨gb413, 0, none⟩ = some (.int .u32 a4_0) := (blk_cell BK413.out 0).trans rfl
    have hcz32_1 : w10.cell? ⟨gb413, 1, none⟩ = some (.int .u8 a4_1) := (blk_cell BK413.out 1).trans rfl
    have hcz32_2 : w10.cell? ⟨gb413, 2, none⟩ = some (.int .i64 a4_2) := (blk_cell BK413.out 2).trans rfl
    have hcz32_3 : w10.cell? ⟨gb413, 3, none⟩ = some (.int .i64 a4_3) := (blk_cell BK413.out 3).trans rfl
    have hcz32_4 : w10.cell? ⟨gb413, 4, none⟩ = some (.int .i64 a4_4) := (blk_cell BK413.out 4).trans rfl
    have hfz32_0 := blk_frozen BK413.out 0
    have hfz32_1 := blk_frozen BK413.out 1
    have hfz32_2 := blk_frozen BK413.out 2
    have hfz32_3 := blk_frozen BK413.out 3
    have hfz32_4 := blk_frozen BK413.out 4
    go_wp2_with (first | ((with_reducible refine gate_callee (f := 13) rfl ?_); refine goesL_ (some 20) rfl rfl Try.func13 (by kernel_rfl) rfl #[.agg #[.int .u32 a3_0, .int .u8 a3_1, .int .i64 a3_2, .int .i64 a3_3, .int .i64 a3_4], .agg #[.int .u32 a4_0, .int .u8 a4_1, .int .i64 a4_2, .int .i64 a4_3, .int .i64 a4_4]] rfl (by (try simp only [List.map_toArray, List.map_cons, List.map_nil]); first | done | rfl | (simp only [List.length_drop, List.length_take]; rfl)) ?_; (with_reducible refine (horariumlaw15_tame.calls a3_0 a3_1 a3_2 a3_3 a3_4 a4_0 a4_1 a4_2 a4_3 a4_4 true _ A11.out).mono ?_); rintro e w33 ⟨rfl, hb⟩; refine ⟨_, rfl, ?_⟩; have n0_ := Aside0.mk (blk_below (g := gb411) (o := .cells #[.int .i64 a0_0, .int .i64 a0_1, .int .i64 a0_2] 23 (0, 0)) (by (with_reducible repeat (first | refine blk_drewN ?_ _ | refine blk_drew ?_ | refine blk_alloc ?_ _)); exact BK411.out) hb); have n1_ := Aside0.mk (blk_below (g := gb412) (o := .cells #[.int .u32 a3_0, .int .u8 a3_1, .int .i64 a3_2, .int .i64 a3_3, .int .i64 a3_4] 28 (0, 0)) (by (with_reducible repeat (first | refine blk_drewN ?_ _ | refine blk_drew ?_ | refine blk_alloc ?_ _)); exact BK412.out) hb); have n2_ := Aside0.mk (blk_below (g := gb413) (o := .cells #[.int .u32 a4_0, .int .u8 a4_1, .int .i64 a4_2, .int .i64 a4_3, .int .i64 a4_4] 28 (0, 0)) (by (with_reducible repeat (first | refine blk_drewN ?_ _ | refine blk_drew ?_ | refine blk_alloc ?_ _)); exact BK413.out) hb); have n3_ := Aside0.mk (below_step (by repeat (first | (with_reducible first | exact HB.out | apply below_alloc | apply pw_below_drewN | apply below_drew1 | refine below_set ?_ GE411.out | refine below_set ?_ GE412.out | refine below_set ?_ GE413.out) | exact HB.out)) hb); clear BK411; clear BK412; clear BK413; clear HB; have BK411 := n0_; have BK412 := n1_; have BK413 := n2_; have HB := n3_; clear n0_ n1_ n2_ n3_; (try clear hb); (try clear hb2); (try clear hk); (try clear hi); have hcz34_0 : w33.cell? ⟨gb411, 0, none⟩ = some (.int .i64 a0_0) := (blk_cell BK411.out 0).trans rfl; have hcz34_1 : w33.cell? ⟨gb411, 1, none⟩ = some (.int .i64 a0_1) := (blk_cell BK411.out 1).trans rfl; have hcz34_2 : w33.cell? ⟨gb411, 2, none⟩ = some (.int .i64 a0_2) := (blk_cell BK411.out 2).trans rfl; have hfz34_0 := blk_frozen BK411.out 0; have hfz34_1 := blk_frozen BK411.out 1; have hfz34_2 := blk_frozen BK411.out 2; have hcz35_0 : w33.cell? ⟨gb412, 0, none⟩ = some (.int .u32 a3_0) := (blk_cell BK412.out 0).trans rfl; have hcz35_1 : w33.cell? ⟨gb412, 1, none⟩ = some (.int .u8 a3_1) := (blk_cell BK412.out 1).trans rfl; have hcz35_2 : w33.cell? ⟨gb412, 2, none⟩ = some (.int .i64 a3_2) := (blk_cell BK412.out 2).trans rfl; have hcz35_3 : w33.cell? ⟨gb412, 3, none⟩ = some (.int .i64 a3_3) := (blk_cell BK412.out 3).trans rfl; have hcz35_4 : w33.cell? ⟨gb412, 4, none⟩ = some (.int .i64 a3_4) := (blk_cell BK412.out 4).trans rfl; have hfz35_0 := blk_frozen BK412.out 0; have hfz35_1 := blk_frozen BK412.out 1; have hfz35_2 := blk_frozen BK412.out 2; have hfz35_3 := blk_frozen BK412.out 3; have hfz35_4 := blk_frozen BK412.out 4) | (go_at_call 14; (with_reducible refine (horariumref09_Right.calls k a0_0 a0_1 a0_2 a3_0 a3_1 a3_2 a3_3 false _ A13.out).mono ?_); rintro e w36 ⟨rfl, hb⟩; have n0_ := Aside0.mk (blk_below (g := gb411) (o := .cells #[.int .i64 a0_0, .int .i64 a0_1, .int .i64 a0_2] 23 (0, 0)) (by (with_reducible repeat (first | refine blk_drewN ?_ _ | refine blk_drew ?_ | refine blk_alloc ?_ _)); exact BK411.out) hb); have n1_ := Aside0.mk (blk_below (g := gb412) (o := .cells #[.int .u32 a3_0, .int .u8 a3_1, .int .i64 a3_2, .int .i64 a3_3, .int .i64 a3_4] 28 (0, 0)) (by (with_reducible repeat (first | refine blk_drewN ?_ _ | refine blk_drew ?_ | refine blk_alloc ?_ _)); exact BK412.out) hb); have n2_ := Aside0.mk (blk_below (g := gb413) (o := .cells #[.int .u32 a4_0, .int .u8 a4_1, .int .i64 a4_2, .int .i64 a4_3, .int .i64 a4_4] 28 (0, 0)) (by (with_reducible repeat (first | refine blk_drewN ?_ _ | refine blk_drew ?_ | refine blk_alloc ?_ _)); exact BK413.out) hb); have n3_ := Aside0.mk (below_step (by repeat (first | (with_reducible first | exact HB.out | apply below_alloc | apply pw_below_drewN | apply below_drew1 | refine below_set ?_ GE411.out | refine below_set ?_ GE412.out | refine below_set ?_ GE413.out) | exact HB.out)) hb); clear BK411; clear BK412; clear BK413; clear HB; have BK411 := n0_; have BK412 := n1_; have BK413 := n2_; have HB := n3_; clear n0_ n1_ n2_ n3_; (try clear hb); (try clear hb2); (try clear hk); (try clear hi)))
    go_meet
    case rel => exact ⟨_, (true), (by first | rfl | (simp; done) | (simp [*]; done)), H', ⟨by first | omega | exact Nat.le_refl _⟩, ⟨by (with_reducible repeat (first | refine blk_drewN ?_ _ | refine blk_drew ?_ | refine blk_alloc ?_ _)); exact BK411.out⟩, ⟨by (with_reducible repeat (first | refine blk_drewN ?_ _ | refine blk_drew ?_ | refine blk_alloc ?_ _)); exact BK412.out⟩, ⟨by (with_reducible repeat (first | refine blk_drewN ?_ _ | refine blk_drew ?_ | refine blk_alloc ?_ _)); exact BK413.out⟩, ⟨by repeat (first | (with_reducible first | exact HB.out | apply below_alloc | apply pw_below_drewN | apply below_drew1 | refine below_set ?_ GE411.out | refine below_set ?_ GE412.out | refine below_set ?_ GE413.out) | exact HB.out)⟩⟩
  ·
   replace c12 := Bool.eq_false_iff.mpr c12
   subst c12
   have H1 : (horariumlaw15_PairNever.j0 k a1 a2 a5 true a0_0 a0_1 a0_2 a3_0 a3_1 a3_2 a3_3 a3_4 a4_0 a4_1 a4_2 a4_3 a4_4) = some r := by rw [if_neg (show ¬ (false = true) by decide)] at H; exact H
   clear H
   have H := H1
   clear H1
   have H' := Aside0.mk H
   clear H
   have hnb37 := NB412_411.out
   have hnc37 := NB411_412.out
   have hnb38 := NB412_413.out
   have hnc38 := NB413_412.out
   have hcz39_0 : w10.cell? ⟨gb412, 0, none⟩ = some (.int .u32 a3_0) := (blk_cell BK412.out 0).trans rfl
   have hcz39_1 : w10.cell? ⟨gb412, 1, none⟩ = some (.int .u8 a3_1) := (blk_cell BK412.out 1).trans rfl
   have hcz39_2 : w10.cell? ⟨gb412, 2, none⟩ = some (.int .i64 a3_2) := (blk_cell BK412.out 2).trans rfl
   have hcz39_3 : w10.cell? ⟨gb412, 3, none⟩ = some (.int .i64 a3_3) := (blk_cell BK412.out 3).trans rfl
   have hcz39_4 : w10.cell? ⟨gb412, 4, none⟩ = some (.int .i64 a3_4) := (blk_cell BK412.out 4).trans rfl
   have hfz39_0 := blk_frozen BK412.out 0
   have hfz39_1 := blk_frozen BK412.out 1
   have hfz39_2 := blk_frozen BK412.out 2
   have hfz39_3 := blk_frozen BK412.out 3
   have hfz39_4 := blk_frozen BK412.out 4
   have hnb40 := NB413_411.out
   have hnc40 := NB411_413.out
   have hcz41_0 : w10.cell? ⟨gb413, 0, none⟩ = some (.int .u32 a4_0) := (blk_cell BK413.out 0).trans rfl
   have hcz41_1 : w10.cell? ⟨gb413, 1, none⟩ = some (.int .u8 a4_1) := (blk_cell BK413.out 1).trans rfl
   have hcz41_2 : w10.cell? ⟨gb413, 2, none⟩ = some (.int .i64 a4_2) := (blk_cell BK413.out 2).trans rfl
   have hcz41_3 : w10.cell? ⟨gb413, 3, none⟩ = some (.int .i64 a4_3) := (blk_cell BK413.out 3).trans rfl
   have hcz41_4 : w10.cell? ⟨gb413, 4, none⟩ = some (.int .i64 a4_4) := (blk_cell BK413.out 4).trans rfl
   have hfz41_0 := blk_frozen BK413.out 0
   have hfz41_1 := blk_frozen BK413.out 1
   have hfz41_2 := blk_frozen BK413.out 2
   have hfz41_3 := blk_frozen BK413.out 3
   have hfz41_4 := blk_frozen BK413.out 4
   go_wp2_with (first | ((with_reducible refine gate_callee (f := 13) rfl ?_); refine goesL_ (some 20) rfl rfl Try.func13 (by kernel_rfl) rfl #[.agg #[.int .u32 a3_0, .int .u8 a3_1, .int .i64 a3_2, .int .i64 a3_3, .int .i64 a3_4], .agg #[.int .u32 a4_0, .int .u8 a4_1, .int .i64 a4_2, .int .i64 a4_3, .int .i64 a4_4]] rfl (by (try simp only [List.map_toArray, List.map_cons, List.map_nil]); first | done | rfl | (simp only [List.length_drop, List.length_take]; rfl)) ?_; (with_reducible refine (horariumlaw15_tame.calls a3_0 a3_1 a3_2 a3_3 a3_4 a4_0 a4_1 a4_2 a4_3 a4_4 false _ A11.out).mono ?_); rintro e w42 ⟨rfl, hb⟩; refine ⟨_, rfl, ?_⟩; have n0_ := Aside0.mk (blk_below (g := gb411) (o := .cells #[.int .i64 a0_0, .int .i64 a0_1, .int .i64 a0_2] 23 (0, 0)) (by (with_reducible repeat (first | refine blk_drewN ?_ _ | refine blk_drew ?_ | refine blk_alloc ?_ _)); exact BK411.out) hb); have n1_ := Aside0.mk (blk_below (g := gb412) (o := .cells #[.int .u32 a3_0, .int .u8 a3_1, .int .i64 a3_2, .int .i64 a3_3, .int .i64 a3_4] 28 (0, 0)) (by (with_reducible repeat (first | refine blk_drewN ?_ _ | refine blk_drew ?_ | refine blk_alloc ?_ _)); exact BK412.out) hb); have n2_ := Aside0.mk (blk_below (g := gb413) (o := .cells #[.int .u32 a4_0, .int .u8 a4_1, .int .i64 a4_2, .int .i64 a4_3, .int .i64 a4_4] 28 (0, 0)) (by (with_reducible repeat (first | refine blk_drewN ?_ _ | refine blk_drew ?_ | refine blk_alloc ?_ _)); exact BK413.out) hb); have n3_ := Aside0.mk (below_step (by repeat (first | (with_reducible first | exact HB.out | apply below_alloc | apply pw_below_drewN | apply below_drew1 | refine below_set ?_ GE411.out | refine below_set ?_ GE412.out | refine below_set ?_ GE413.out) | exact HB.out)) hb); clear BK411; clear BK412; clear BK413; clear HB; have BK411 := n0_; have BK412 := n1_; have BK413 := n2_; have HB := n3_; clear n0_ n1_ n2_ n3_; (try clear hb); (try clear hb2); (try clear hk); (try clear hi)))
   go_meet
   case rel => exact ⟨_, (true), (by first | rfl | (simp; done) | (simp [*]; done)), H', ⟨by first | omega | exact Nat.le_refl _⟩, ⟨by (with_reducible repeat (first | refine blk_drewN ?_ _ | refine blk_drew ?_ | refine blk_alloc ?_ _)); exact BK411.out⟩, ⟨by (with_reducible repeat (first | refine blk_drewN ?_ _ | refine blk_drew ?_ | refine blk_alloc ?_ _)); exact BK412.out⟩, ⟨by (with_reducible repeat (first | refine blk_drewN ?_ _ | refine blk_drew ?_ | refine blk_alloc ?_ _)); exact BK413.out⟩, ⟨by repeat (first | (with_reducible first | exact HB.out | apply below_alloc | apply pw_below_drewN | apply below_drew1 | refine below_set ?_ GE411.out | refine below_set ?_ GE412.out | refine below_set ?_ GE413.out) | exact HB.out)⟩⟩
 case rest =>
  clear HC7
  try clear c1
  try clear c2
  try clear p2
  try clear c3
  try clear c4
  try clear c5
  try clear c12
  try clear c13
  try clear c14
  try clear c16
  try clear c17
  try clear c19
  try clear c28
  try clear c29
  try clear c31
  try clear c37
  try clear c38
  try clear c40
  try clear hcz18_0
  try clear hcz18_1
  try clear hcz18_2
  try clear hcz18_3
  try clear hcz18_4
  try clear hcz20_0
  try clear hcz20_1
  try clear hcz20_2
  try clear hcz20_3
  try clear hcz20_4
  try clear hcz22_0
  try clear hcz22_1
  try clear hcz22_2
  try clear hcz23_0
  try clear hcz23_1
  try clear hcz23_2
  try clear hcz23_3
  try clear hcz23_4
  try clear hcz25_0
  try clear hcz25_1
  try clear hcz25_2
  try clear hcz26_0
  try clear hcz26_1
  try clear hcz26_2
  try clear hcz26_3
  try clear hcz26_4
  try clear hcz30_0
  try clear hcz30_1
  try clear hcz30_2
  try clear hcz30_3
  try clear hcz30_4
  try clear hcz32_0
  try clear hcz32_1
  try clear hcz32_2
  try clear hcz32_3
  try clear hcz32_4
  try clear hcz34_0
  try clear hcz34_1
  try clear hcz34_2
  try clear hcz35_0
  try clear hcz35_1
  try clear hcz35_2
  try clear hcz35_3
  try clear hcz35_4
  try clear hcz39_0
  try clear hcz39_1
  try clear hcz39_2
  try clear hcz39_3
  try clear hcz39_4
  try clear hcz41_0
  try clear hcz41_1
  try clear hcz41_2
  try clear hcz41_3
  try clear hcz41_4
  try clear hfz18_0
  try clear hfz18_1
  try clear hfz18_2
  try clear hfz18_3
  try clear hfz18_4
  try clear hfz20_0
  try clear hfz20_1
  try clear hfz20_2
  try clear hfz20_3
  try clear hfz20_4
  try clear hfz22_0
  try clear hfz22_1
  try clear hfz22_2
  try clear hfz23_0
  try clear hfz23_1
  try clear hfz23_2
  try clear hfz23_3
  try clear hfz23_4
  try clear hfz25_0
  try clear hfz25_1
  try clear hfz25_2
  try clear hfz26_0
  try clear hfz26_1
  try clear hfz26_2
  try clear hfz26_3
  try clear hfz26_4
  try clear hfz30_0
  try clear hfz30_1
  try clear hfz30_2
  try clear hfz30_3
  try clear hfz30_4
  try clear hfz32_0
  try clear hfz32_1
  try clear hfz32_2
  try clear hfz32_3
  try clear hfz32_4
  try clear hfz34_0
  try clear hfz34_1
  try clear hfz34_2
  try clear hfz35_0
  try clear hfz35_1
  try clear hfz35_2
  try clear hfz35_3
  try clear hfz35_4
  try clear hfz39_0
  try clear hfz39_1
  try clear hfz39_2
  try clear hfz39_3
  try clear hfz39_4
  try clear hfz41_0
  try clear hfz41_1
  try clear hfz41_2
  try clear hfz41_3
  try clear hfz41_4
  obtain ⟨kq, x35_6, rfl, HA, HJ6, BK411, BK412, BK413, HB⟩ := hcut
  cases kq with
  | zero => exact absurd HA.out (by simp [horariumlaw15_PairNever.j0])
  | succ kj6 =>
   have H := HA.out
   clear HA
   simp only [horariumlaw15_PairNever.j0] at H
   by_cases c43 : x35_6 = true
   ·
    subst c43
    have H1 : ((horariumlaw15_heads.f kj6).bind fun t417 => (some t417)) = some r := by rw [if_pos rfl] at H; exact H
    clear H
    have H := H1
    clear H1
    replace H := Option.bind_eq_some_iff.mp H
    obtain ⟨t417, A440, H⟩ := H
    replace H : (some t417) = some r := H
    have A44 := Aside0.mk A440
    clear A440
    obtain rfl := Option.some.inj H
    go_wp2_with (first | ((with_reducible refine gate_callee (f := 11) rfl ?_); refine goesL_ (some 36) rfl rfl Try.func11 (by kernel_rfl) rfl #[] rfl (by (try simp only [List.map_toArray, List.map_cons, List.map_nil]); first | done | rfl | (simp only [List.length_drop, List.length_take]; rfl)) ?_; (with_reducible refine (horariumlaw15_heads.calls kj6  t417 _ HR A44.out).mono ?_); rintro e w45 ⟨rfl, hb⟩; refine ⟨_, rfl, ?_⟩; have n0_ := Aside0.mk (blk_below (g := gb411) (o := .cells #[.int .i64 a0_0, .int .i64 a0_1, .int .i64 a0_2] 23 (0, 0)) (by (with_reducible repeat (first | refine blk_drewN ?_ _ | refine blk_drew ?_ | refine blk_alloc ?_ _)); exact BK411.out) hb); have n1_ := Aside0.mk (blk_below (g := gb412) (o := .cells #[.int .u32 a3_0, .int .u8 a3_1, .int .i64 a3_2, .int .i64 a3_3, .int .i64 a3_4] 28 (0, 0)) (by (with_reducible repeat (first | refine blk_drewN ?_ _ | refine blk_drew ?_ | refine blk_alloc ?_ _)); exact BK412.out) hb); have n2_ := Aside0.mk (blk_below (g := gb413) (o := .cells #[.int .u32 a4_0, .int .u8 a4_1, .int .i64 a4_2, .int .i64 a4_3, .int .i64 a4_4] 28 (0, 0)) (by (with_reducible repeat (first | refine blk_drewN ?_ _ | refine blk_drew ?_ | refine blk_alloc ?_ _)); exact BK413.out) hb); have n3_ := Aside0.mk (below_step (by repeat (first | (with_reducible first | exact HB.out | apply below_alloc | apply pw_below_drewN | apply below_drew1 | refine below_set ?_ GE411.out | refine below_set ?_ GE412.out | refine below_set ?_ GE413.out) | exact HB.out)) hb); clear BK411; clear BK412; clear BK413; clear HB; have BK411 := n0_; have BK412 := n1_; have BK413 := n2_; have HB := n3_; clear n0_ n1_ n2_ n3_; (try clear hb); (try clear hb2); (try clear hk); (try clear hi)))
    go_ret
    exact ⟨by first | rfl | (simp [errW_none, errW_some] <;> rfl) | (simp [*, errW_none, errW_some] <;> rfl), by repeat (first | (with_reducible first | exact HB.out | apply below_alloc | apply pw_below_drewN | apply below_drew1 | refine below_set ?_ GE411.out | refine below_set ?_ GE412.out | refine below_set ?_ GE413.out) | exact HB.out)⟩
   ·
    replace c43 := Bool.eq_false_iff.mpr c43
    subst c43
    have H1 : (horariumlaw15_PairNever.l0 kj6 a1 a2 a5 0 a0_0 a0_1 a0_2 a3_0 a3_1 a3_2 a3_3 a3_4 a4_0 a4_1 a4_2 a4_3 a4_4) = some r := by rw [if_neg (show ¬ (false = true) by decide)] at H; exact H
    clear H
    have H := H1
    clear H1
    have H' := Aside0.mk H
    clear H
    go_wp2
    go_loopg [13] kj6 (fun kq v13 w' => ∃ (x13_2 : Int), v13 = .int .i64 x13_2 ∧ Aside0 (horariumlaw15_PairNever.l0 kq a1 a2 a5 x13_2 a0_0 a0_1 a0_2 a3_0 a3_1 a3_2 a3_3 a3_4 a4_0 a4_1 a4_2 a4_3 a4_4 = some r) ∧ Aside0 (kq ≤ kj6) ∧ Aside0 (w'.heap[gb411]? = some (.cells #[.int .i64 a0_0, .int .i64 a0_1, .int .i64 a0_2] 23 (0, 0))) ∧ Aside0 (w'.heap[gb412]? = some (.cells #[.int .u32 a3_0, .int .u8 a3_1, .int .i64 a3_2, .int .i64 a3_3, .int .i64 a3_4] 28 (0, 0))) ∧ Aside0 (w'.heap[gb413]? = some (.cells #[.int .u32 a4_0, .int .u8 a4_1, .int .i64 a4_2, .int .i64 a4_3, .int .i64 a4_4] 28 (0, 0))) ∧ Aside0 (Below w.heap.size w w'))
    case atStart => exact ⟨(0), (by first | rfl | (simp; done) | (simp [*]; done)), H', ⟨Nat.le_refl _⟩, ⟨by (with_reducible repeat (first | refine blk_drewN ?_ _ | refine blk_drew ?_ | refine blk_alloc ?_ _)); exact BK411.out⟩, ⟨by (with_reducible repeat (first | refine blk_drewN ?_ _ | refine blk_drew ?_ | refine blk_alloc ?_ _)); exact BK412.out⟩, ⟨by (with_reducible repeat (first | refine blk_drewN ?_ _ | refine blk_drew ?_ | refine blk_alloc ?_ _)); exact BK413.out⟩, ⟨by repeat (first | (with_reducible first | exact HB.out | apply below_alloc | apply pw_below_drewN | apply below_drew1 | refine below_set ?_ GE411.out | refine below_set ?_ GE412.out | refine below_set ?_ GE413.out) | exact HB.out)⟩⟩
    case round =>
     clear H'
     try clear c11
     try clear c43
     obtain ⟨x13_2, rfl, HA, HK2, BK411, BK412, BK413, HB⟩ := hrel
     cases gk with
     | zero => exact absurd HA.out (by simp [horariumlaw15_PairNever.l0])
     | succ k2 =>
      have H := HA.out
      clear HA
      simp only [horariumlaw15_PairNever.l0] at H
      by_cases c46 : x13_2 < 16
      ·
       rw [if_pos c46] at H
       have c46b0 : decide (x13_2 < 16) = true := decide_eq_true c46
       clear c46
       have HC47 := Aside0.mk H
       clear H
       try go_wp2
       have n0_ := Aside0.mk (blk_drew BK411.out)
       have n1_ := Aside0.mk (blk_drew BK412.out)
       have n2_ := Aside0.mk (blk_drew BK413.out)
       have n3_ := Aside0.mk (below_drew1 HB.out)
       clear BK411
       clear BK412
       clear BK413
       clear HB
       have BK411 := n0_
       have BK412 := n1_
       have BK413 := n2_
       have HB := n3_
       clear n0_ n1_ n2_ n3_
       refine start_ (n := 6) (S := fun w' => w'.cell? ⟨gb412, 0, none⟩ = some (.int .u32 a3_0) ∧ w'.cell? ⟨gb412, 1, none⟩ = some (.int .u8 a3_1) ∧ w'.cell? ⟨gb412, 2, none⟩ = some (.int .i64 a3_2) ∧ w'.cell? ⟨gb412, 3, none⟩ = some (.int .i64 a3_3) ∧ w'.cell? ⟨gb412, 4, none⟩ = some (.int .i64 a3_4) ∧ w'.cell? ⟨gb413, 0, none⟩ = some (.int .u32 a4_0) ∧ w'.cell? ⟨gb413, 1, none⟩ = some (.int .u8 a4_1) ∧ w'.cell? ⟨gb413, 2, none⟩ = some (.int .i64 a4_2) ∧ w'.cell? ⟨gb413, 3, none⟩ = some (.int .i64 a4_3) ∧ w'.cell? ⟨gb413, 4, none⟩ = some (.int .i64 a4_4)) (ds := []) #[false, false, false, false, false, false] (by kernel_rfl) rfl rfl ⟨(blk_cell BK412.out 0).trans rfl, (blk_cell BK412.out 1).trans rfl, (blk_cell BK412.out 2).trans rfl, (blk_cell BK412.out 3).trans rfl, (blk_cell BK412.out 4).trans rfl, (blk_cell BK413.out 0).trans rfl, (blk_cell BK413.out 1).trans rfl, (blk_cell BK413.out 2).trans rfl, (blk_cell BK413.out 3).trans rfl, (blk_cell BK413.out 4).trans rfl⟩ (fun hHeld => ?_)
       generalize wr.drew = w48 at BK411 BK412 BK413 HB hHeld ⊢
       refine take_ (i := 0) (N := some 41) (v := ?_) (a' := ?_) #[true, false, false, false, false, false] rfl rfl (by kernel_rfl) (fun _ _ _ h => h) (Or.inl ⟨by rfl, ?_⟩) hHeld ?_ ?_
       rotate_left
       ·
        rintro w' ⟨s0, s1, s2, s3, s4, s5, s6, s7, s8, s9⟩
        go_simp
        with_reducible rfl
       rotate_left
       ·
        simp only [Act.put, List.setIfInBounds_toArray, List.set_cons_zero, List.set_cons_succ, i64_w, i32_w]
        rfl
       refine take_ (i := 1) (N := some 42) (v := ?_) (a' := ?_) #[true, true, false, false, false, false] rfl rfl (by kernel_rfl) (fun _ _ _ h => h) (Or.inl ⟨by rfl, ?_⟩) hHeld ?_ ?_
       rotate_left
       ·
        rintro w' ⟨s0, s1, s2, s3, s4, s5, s6, s7, s8, s9⟩
        go_simp
        with_reducible rfl
       rotate_left
       ·
        simp only [Act.put, List.setIfInBounds_toArray, List.set_cons_zero, List.set_cons_succ, i64_w, i32_w]
        rfl
       refine join_ (σ := Nat × Nat) 2 #[true, true, true, true, false, false] (fun s_ => [(14, .pointer (some ⟨s_.1, 0, none⟩)), (15, .pointer (some ⟨s_.2, 0, none⟩))]) (fun s_ w' => (w'.cell? ⟨gb412, 0, none⟩ = some (.int .u32 a3_0) ∧ w'.cell? ⟨gb412, 1, none⟩ = some (.int .u8 a3_1) ∧ w'.cell? ⟨gb412, 2, none⟩ = some (.int .i64 a3_2) ∧ w'.cell? ⟨gb412, 3, none⟩ = some (.int .i64 a3_3) ∧ w'.cell? ⟨gb412, 4, none⟩ = some (.int .i64 a3_4) ∧ w'.cell? ⟨gb413, 0, none⟩ = some (.int .u32 a4_0) ∧ w'.cell? ⟨gb413, 1, none⟩ = some (.int .u8 a4_1) ∧ w'.cell? ⟨gb413, 2, none⟩ = some (.int .i64 a4_2) ∧ w'.cell? ⟨gb413, 3, none⟩ = some (.int .i64 a4_3) ∧ w'.cell? ⟨gb413, 4, none⟩ = some (.int .i64 a4_4)) ∧ (w'.heap[gb411]? = some (.cells #[.int .i64 a0_0, .int .i64 a0_1, .int .i64 a0_2] 23 (0, 0))) ∧ (w'.heap[gb412]? = some (.cells #[.int .u32 a3_0, .int .u8 a3_1, .int .i64 a3_2, .int .i64 a3_3, .int .i64 a3_4] 28 (0, 0))) ∧ (w'.heap[gb413]? = some (.cells #[.int .u32 a4_0, .int .u8 a4_1, .int .i64 a4_2, .int .i64 a4_3, .int .i64 a4_4] 28 (0, 0))) ∧ (w'.heap[s_.1]? = some (.cells #[.int .u32 0, .int .u8 0, .int .i64 0, .int .i64 0, .int .i64 0] 28 (0, 0))) ∧ (w'.heap[s_.2]? = some (.cells #[.int .u32 0, .int .u8 0, .int .i64 0, .int .i64 0, .int .i64 0] 28 (0, 0))) ∧ (w.heap.size ≤ s_.1) ∧ (w.heap.size ≤ s_.1) ∧ (gb411 ≠ s_.1) ∧ (s_.1 ≠ gb411) ∧ (gb412 ≠ s_.1) ∧ (s_.1 ≠ gb412) ∧ (gb413 ≠ s_.1) ∧ (s_.1 ≠ gb413) ∧ (s_.2 ≠ s_.1) ∧ (s_.1 ≠ s_.2) ∧ (w.heap.size ≤ s_.2) ∧ (w.heap.size ≤ s_.2) ∧ (gb411 ≠ s_.2) ∧ (s_.2 ≠ gb411) ∧ (gb412 ≠ s_.2) ∧ (s_.2 ≠ gb412) ∧ (gb413 ≠ s_.2) ∧ (s_.2 ≠ gb413) ∧ (Below w.heap.size w w')) ?_ ?_
       rotate_left
       ·
        intro hCont
        refine two_ (i := 2) (j := 3) (Ni := some 14) (Nj := some 15) #[true, true, true, false, false, false] #[true, true, false, true, false, false] rfl rfl rfl rfl (by kernel_rfl) (by decide) (by decide) (fun K hK => ?_) (fun K hK => ?_)
        ·
         skip
         refine box_step ?hg (N := 14) ?hd (cs := #[.int .u32 0, .int .u8 0, .int .i64 0, .int .i64 0, .int .i64 0]) (t := 28) ?hr ?_; (case hd => rfl); (case hg => rfl); (case hr => first | (go_simp; done) | (go_simp; rfl))
         intro gb418 hg w49 hbox hb
         have n0_ := Aside0.mk (blk_below (g := gb411) (o := .cells #[.int .i64 a0_0, .int .i64 a0_1, .int .i64 a0_2] 23 (0, 0)) (by (with_reducible repeat (first | refine blk_drewN ?_ _ | refine blk_drew ?_ | refine blk_alloc ?_ _)); exact BK411.out) hb)
         have n1_ := Aside0.mk (blk_below (g := gb412) (o := .cells #[.int .u32 a3_0, .int .u8 a3_1, .int .i64 a3_2, .int .i64 a3_3, .int .i64 a3_4] 28 (0, 0)) (by (with_reducible repeat (first | refine blk_drewN ?_ _ | refine blk_drew ?_ | refine blk_alloc ?_ _)); exact BK412.out) hb)
         have n2_ := Aside0.mk (blk_below (g := gb413) (o := .cells #[.int .u32 a4_0, .int .u8 a4_1, .int .i64 a4_2, .int .i64 a4_3, .int .i64 a4_4] 28 (0, 0)) (by (with_reducible repeat (first | refine blk_drewN ?_ _ | refine blk_drew ?_ | refine blk_alloc ?_ _)); exact BK413.out) hb)
         have n3_ := Aside0.mk (below_step (by repeat (first | (with_reducible first | exact HB.out | apply below_alloc | apply pw_below_drewN | apply below_drew1 | refine below_set ?_ GE411.out | refine below_set ?_ GE412.out | refine below_set ?_ GE413.out) | exact HB.out)) hb)
         have n4_ := Aside0.mk (hbox)
         have n5_ := Aside0.mk ((by rw [hg]; exact (below_size (by repeat (first | (with_reducible first | exact HB.out | apply below_alloc | apply pw_below_drewN | apply below_drew1 | refine below_set ?_ GE411.out | refine below_set ?_ GE412.out | refine below_set ?_ GE413.out) | exact HB.out))) : w.heap.size ≤ gb418))
         have n6_ := Aside0.mk ((by rw [hg]; exact (below_size (by repeat (first | (with_reducible first | exact HB.out | apply below_alloc | apply pw_below_drewN | apply below_drew1 | refine below_set ?_ GE411.out | refine below_set ?_ GE412.out | refine below_set ?_ GE413.out) | exact HB.out))) : w.heap.size ≤ gb418))
         have n7_ := Aside0.mk ((by rw [hg]; exact Nat.ne_of_lt (blk_lt (g := gb411) (o := .cells #[.int .i64 a0_0, .int .i64 a0_1, .int .i64 a0_2] 23 (0, 0)) (by (with_reducible repeat (first | refine blk_drewN ?_ _ | refine blk_drew ?_ | refine blk_alloc ?_ _)); exact BK411.out)) : gb411 ≠ gb418))
         have n8_ := Aside0.mk ((by rw [hg]; exact Nat.ne_of_gt (blk_lt (g := gb411) (o := .cells #[.int .i64 a0_0, .int .i64 a0_1, .int .i64 a0_2] 23 (0, 0)) (by (with_reducible repeat (first | refine blk_drewN ?_ _ | refine blk_drew ?_ | refine blk_alloc ?_ _)); exact BK411.out)) : gb418 ≠ gb411))
         have n9_ := Aside0.mk ((by rw [hg]; exact Nat.ne_of_lt (blk_lt (g := gb412) (o := .cells #[.int .u32 a3_0, .int .u8 a3_1, .int .i64 a3_2, .int .i64 a3_3, .int .i64 a3_4] 28 (0, 0)) (by (with_reducible repeat (first | refine blk_drewN ?_ _ | refine blk_drew ?_ | refine blk_alloc ?_ _)); exact BK412.out)) : gb412 ≠ gb418))
         have n10_ := Aside0.mk ((by rw [hg]; exact Nat.ne_of_gt (blk_lt (g := gb412) (o := .cells #[.int .u32 a3_0, .int .u8 a3_1, .int .i64 a3_2, .int .i64 a3_3, .int .i64 a3_4] 28 (0, 0)) (by (with_reducible repeat (first | refine blk_drewN ?_ _ | refine blk_drew ?_ | refine blk_alloc ?_ _)); exact BK412.out)) : gb418 ≠ gb412))
         have n11_ := Aside0.mk ((by rw [hg]; exact Nat.ne_of_lt (blk_lt (g := gb413) (o := .cells #[.int .u32 a4_0, .int .u8 a4_1, .int .i64 a4_2, .int .i64 a4_3, .int .i64 a4_4] 28 (0, 0)) (by (with_reducible repeat (first | refine blk_drewN ?_ _ | refine blk_drew ?_ | refine blk_alloc ?_ _)); exact BK413.out)) : gb413 ≠ gb418))
         have n12_ := Aside0.mk ((by rw [hg]; exact Nat.ne_of_gt (blk_lt (g := gb413) (o := .cells #[.int .u32 a4_0, .int .u8 a4_1, .int .i64 a4_2, .int .i64 a4_3, .int .i64 a4_4] 28 (0, 0)) (by (with_reducible repeat (first | refine blk_drewN ?_ _ | refine blk_drew ?_ | refine blk_alloc ?_ _)); exact BK413.out)) : gb418 ≠ gb413))
         clear BK411
         clear BK412
         clear BK413
         clear HB
         have BK411 := n0_
         have BK412 := n1_
         have BK413 := n2_
         have HB := n3_
         have BK418 := n4_
         have GW418 := n5_
         have GE418 := n6_
         have NB411_418 := n7_
         have NB418_411 := n8_
         have NB412_418 := n9_
         have NB418_412 := n10_
         have NB413_418 := n11_
         have NB418_413 := n12_
         clear n0_ n1_ n2_ n3_ n4_ n5_ n6_ n7_ n8_ n9_ n10_ n11_ n12_
         clear hb hbox hg
         refine hK.out _ _ ⟨(blk_cell BK412.out 0).trans rfl, (blk_cell BK412.out 1).trans rfl, (blk_cell BK412.out 2).trans rfl, (blk_cell BK412.out 3).trans rfl, (blk_cell BK412.out 4).trans rfl, (blk_cell BK413.out 0).trans rfl, (blk_cell BK413.out 1).trans rfl, (blk_cell BK413.out 2).trans rfl, (blk_cell BK413.out 3).trans rfl, (blk_cell BK413.out 4).trans rfl⟩ (fun hHeld => ?_)
         clear hK K
         refine norm_ (a' := ?_) ?_ ?_
         rotate_left
         ·
          show Act.put _ (some 14) _ = _
          simp only [Act.put, List.setIfInBounds_toArray, List.set_cons_zero, List.set_cons_succ, i64_w, i32_w]
          rfl
         refine one_ (i := 3) (N := some 15) #[true, true, true, true, false, false] rfl rfl (by kernel_rfl) (by decide) (fun K hK => ?_)
         refine box_step ?hg (N := 15) ?hd (cs := #[.int .u32 0, .int .u8 0, .int .i64 0, .int .i64 0, .int .i64 0]) (t := 28) ?hr ?_; (case hd => rfl); (case hg => rfl); (case hr => first | (go_simp; done) | (go_simp; rfl))
         intro gb419 hg w50 hbox hb
         have n0_ := Aside0.mk (blk_below (g := gb411) (o := .cells #[.int .i64 a0_0, .int .i64 a0_1, .int .i64 a0_2] 23 (0, 0)) (by (with_reducible repeat (first | refine blk_drewN ?_ _ | refine blk_drew ?_ | refine blk_alloc ?_ _)); exact BK411.out) hb)
         have n1_ := Aside0.mk (blk_below (g := gb412) (o := .cells #[.int .u32 a3_0, .int .u8 a3_1, .int .i64 a3_2, .int .i64 a3_3, .int .i64 a3_4] 28 (0, 0)) (by (with_reducible repeat (first | refine blk_drewN ?_ _ | refine blk_drew ?_ | refine blk_alloc ?_ _)); exact BK412.out) hb)
         have n2_ := Aside0.mk (blk_below (g := gb413) (o := .cells #[.int .u32 a4_0, .int .u8 a4_1, .int .i64 a4_2, .int .i64 a4_3, .int .i64 a4_4] 28 (0, 0)) (by (with_reducible repeat (first | refine blk_drewN ?_ _ | refine blk_drew ?_ | refine blk_alloc ?_ _)); exact BK413.out) hb)
         have n3_ := Aside0.mk (blk_below (g := gb418) (o := .cells #[.int .u32 0, .int .u8 0, .int .i64 0, .int .i64 0, .int .i64 0] 28 (0, 0)) (by (with_reducible repeat (first | refine blk_drewN ?_ _ | refine blk_drew ?_ | refine blk_alloc ?_ _)); exact BK418.out) hb)
         have n4_ := Aside0.mk (below_step (by repeat (first | (with_reducible first | exact HB.out | apply below_alloc | apply pw_below_drewN | apply below_drew1 | refine below_set ?_ GE411.out | refine below_set ?_ GE412.out | refine below_set ?_ GE413.out | refine below_set ?_ GE418.out) | exact HB.out)) hb)
         have n5_ := Aside0.mk (hbox)
         have n6_ := Aside0.mk ((by rw [hg]; exact (below_size (by repeat (first | (with_reducible first | exact HB.out | apply below_alloc | apply pw_below_drewN | apply below_drew1 | refine below_set ?_ GE411.out | refine below_set ?_ GE412.out | refine below_set ?_ GE413.out | refine below_set ?_ GE418.out) | exact HB.out))) : w.heap.size ≤ gb419))
         have n7_ := Aside0.mk ((by rw [hg]; exact (below_size (by repeat (first | (with_reducible first | exact HB.out | apply below_alloc | apply pw_below_drewN | apply below_drew1 | refine below_set ?_ GE411.out | refine below_set ?_ GE412.out | refine below_set ?_ GE413.out | refine below_set ?_ GE418.out) | exact HB.out))) : w.heap.size ≤ gb419))
         have n8_ := Aside0.mk ((by rw [hg]; exact Nat.ne_of_lt (blk_lt (g := gb411) (o := .cells #[.int .i64 a0_0, .int .i64 a0_1, .int .i64 a0_2] 23 (0, 0)) (by (with_reducible repeat (first | refine blk_drewN ?_ _ | refine blk_drew ?_ | refine blk_alloc ?_ _)); exact BK411.out)) : gb411 ≠ gb419))
         have n9_ := Aside0.mk ((by rw [hg]; exact Nat.ne_of_gt (blk_lt (g := gb411) (o := .cells #[.int .i64 a0_0, .int .i64 a0_1, .int .i64 a0_2] 23 (0, 0)) (by (with_reducible repeat (first | refine blk_drewN ?_ _ | refine blk_drew ?_ | refine blk_alloc ?_ _)); exact BK411.out)) : gb419 ≠ gb411))
         have n10_ := Aside0.mk ((by rw [hg]; exact Nat.ne_of_lt (blk_lt (g := gb412) (o := .cells #[.int .u32 a3_0, .int .u8 a3_1, .int .i64 a3_2, .int .i64 a3_3, .int .i64 a3_4] 28 (0, 0)) (by (with_reducible repeat (first | refine blk_drewN ?_ _ | refine blk_drew ?_ | refine blk_alloc ?_ _)); exact BK412.out)) : gb412 ≠ gb419))
         have n11_ := Aside0.mk ((by rw [hg]; exact Nat.ne_of_gt (blk_lt (g := gb412) (o := .cells #[.int .u32 a3_0, .int .u8 a3_1, .int .i64 a3_2, .int .i64 a3_3, .int .i64 a3_4] 28 (0, 0)) (by (with_reducible repeat (first | refine blk_drewN ?_ _ | refine blk_drew ?_ | refine blk_alloc ?_ _)); exact BK412.out)) : gb419 ≠ gb412))
         have n12_ := Aside0.mk ((by rw [hg]; exact Nat.ne_of_lt (blk_lt (g := gb413) (o := .cells #[.int .u32 a4_0, .int .u8 a4_1, .int .i64 a4_2, .int .i64 a4_3, .int .i64 a4_4] 28 (0, 0)) (by (with_reducible repeat (first | refine blk_drewN ?_ _ | refine blk_drew ?_ | refine blk_alloc ?_ _)); exact BK413.out)) : gb413 ≠ gb419))
         have n13_ := Aside0.mk ((by rw [hg]; exact Nat.ne_of_gt (blk_lt (g := gb413) (o := .cells #[.int .u32 a4_0, .int .u8 a4_1, .int .i64 a4_2, .int .i64 a4_3, .int .i64 a4_4] 28 (0, 0)) (by (with_reducible repeat (first | refine blk_drewN ?_ _ | refine blk_drew ?_ | refine blk_alloc ?_ _)); exact BK413.out)) : gb419 ≠ gb413))
         have n14_ := Aside0.mk ((by rw [hg]; exact Nat.ne_of_lt (blk_lt (g := gb418) (o := .cells #[.int .u32 0, .int .u8 0, .int .i64 0, .int .i64 0, .int .i64 0] 28 (0, 0)) (by (with_reducible repeat (first | refine blk_drewN ?_ _ | refine blk_drew ?_ | refine blk_alloc ?_ _)); exact BK418.out)) : gb418 ≠ gb419))
         have n15_ := Aside0.mk ((by rw [hg]; exact Nat.ne_of_gt (blk_lt (g := gb418) (o := .cells #[.int .u32 0, .int .u8 0, .int .i64 0, .int .i64 0, .int .i64 0] 28 (0, 0)) (by (with_reducible repeat (first | refine blk_drewN ?_ _ | refine blk_drew ?_ | refine blk_alloc ?_ _)); exact BK418.out)) : gb419 ≠ gb418))
         clear BK411
         clear BK412
         clear BK413
         clear BK418
         clear HB
         have BK411 := n0_
         have BK412 := n1_
         have BK413 := n2_
         have BK418 := n3_
         have HB := n4_
         have BK419 := n5_
         have GW419 := n6_
         have GE419 := n7_
         have NB411_419 := n8_
         have NB419_411 := n9_
         have NB412_419 := n10_
         have NB419_412 := n11_
         have NB413_419 := n12_
         have NB419_413 := n13_
         have NB418_419 := n14_
         have NB419_418 := n15_
         clear n0_ n1_ n2_ n3_ n4_ n5_ n6_ n7_ n8_ n9_ n10_ n11_ n12_ n13_ n14_ n15_
         clear hb hbox hg
         refine hK.out _ _ ⟨(blk_cell BK412.out 0).trans rfl, (blk_cell BK412.out 1).trans rfl, (blk_cell BK412.out 2).trans rfl, (blk_cell BK412.out 3).trans rfl, (blk_cell BK412.out 4).trans rfl, (blk_cell BK413.out 0).trans rfl, (blk_cell BK413.out 1).trans rfl, (blk_cell BK413.out 2).trans rfl, (blk_cell BK413.out 3).trans rfl, (blk_cell BK413.out 4).trans rfl⟩ (fun hHeld => ?_)
         clear hK K
         refine norm_ (a' := ?_) ?_ ?_
         rotate_left
         ·
          show Act.put _ (some 15) _ = _
          simp only [Act.put, List.setIfInBounds_toArray, List.set_cons_zero, List.set_cons_succ, i64_w, i32_w]
          rfl
         exact norm_ (by simp only [putAll, Act.put, List.setIfInBounds_toArray, List.set_cons_zero, List.set_cons_succ]) (hCont (gb418, gb419) _ ⟨hHeld, (by (with_reducible repeat (first | refine blk_drewN ?_ _ | refine blk_drew ?_ | refine blk_alloc ?_ _)); exact BK411.out), (by (with_reducible repeat (first | refine blk_drewN ?_ _ | refine blk_drew ?_ | refine blk_alloc ?_ _)); exact BK412.out), (by (with_reducible repeat (first | refine blk_drewN ?_ _ | refine blk_drew ?_ | refine blk_alloc ?_ _)); exact BK413.out), (by (with_reducible repeat (first | refine blk_drewN ?_ _ | refine blk_drew ?_ | refine blk_alloc ?_ _)); exact BK418.out), (by (with_reducible repeat (first | refine blk_drewN ?_ _ | refine blk_drew ?_ | refine blk_alloc ?_ _)); exact BK419.out), GW418.out, GE418.out, NB411_418.out, NB418_411.out, NB412_418.out, NB418_412.out, NB413_418.out, NB418_413.out, NB419_418.out, NB418_419.out, GW419.out, GE419.out, NB411_419.out, NB419_411.out, NB412_419.out, NB419_412.out, NB413_419.out, NB419_413.out, (by repeat (first | (with_reducible first | exact HB.out | apply below_alloc | apply pw_below_drewN | apply below_drew1 | refine below_set ?_ GE411.out | refine below_set ?_ GE412.out | refine below_set ?_ GE413.out | refine below_set ?_ GE418.out | refine below_set ?_ GE419.out) | exact HB.out))⟩)
        ·
         skip
         refine box_step ?hg (N := 15) ?hd (cs := #[.int .u32 0, .int .u8 0, .int .i64 0, .int .i64 0, .int .i64 0]) (t := 28) ?hr ?_; (case hd => rfl); (case hg => rfl); (case hr => first | (go_simp; done) | (go_simp; rfl))
         intro gb419 hg w49 hbox hb
         have n0_ := Aside0.mk (blk_below (g := gb411) (o := .cells #[.int .i64 a0_0, .int .i64 a0_1, .int .i64 a0_2] 23 (0, 0)) (by (with_reducible repeat (first | refine blk_drewN ?_ _ | refine blk_drew ?_ | refine blk_alloc ?_ _)); exact BK411.out) hb)
         have n1_ := Aside0.mk (blk_below (g := gb412) (o := .cells #[.int .u32 a3_0, .int .u8 a3_1, .int .i64 a3_2, .int .i64 a3_3, .int .i64 a3_4] 28 (0, 0)) (by (with_reducible repeat (first | refine blk_drewN ?_ _ | refine blk_drew ?_ | refine blk_alloc ?_ _)); exact BK412.out) hb)
         have n2_ := Aside0.mk (blk_below (g := gb413) (o := .cells #[.int .u32 a4_0, .int .u8 a4_1, .int .i64 a4_2, .int .i64 a4_3, .int .i64 a4_4] 28 (0, 0)) (by (with_reducible repeat (first | refine blk_drewN ?_ _ | refine blk_drew ?_ | refine blk_alloc ?_ _)); exact BK413.out) hb)
         have n3_ := Aside0.mk (below_step (by repeat (first | (with_reducible first | exact HB.out | apply below_alloc | apply pw_below_drewN | apply below_drew1 | refine below_set ?_ GE411.out | refine below_set ?_ GE412.out | refine below_set ?_ GE413.out) | exact HB.out)) hb)
         have n4_ := Aside0.mk (hbox)
         have n5_ := Aside0.mk ((by rw [hg]; exact (below_size (by repeat (first | (with_reducible first | exact HB.out | apply below_alloc | apply pw_below_drewN | apply below_drew1 | refine below_set ?_ GE411.out | refine below_set ?_ GE412.out | refine below_set ?_ GE413.out) | exact HB.out))) : w.heap.size ≤ gb419))
         have n6_ := Aside0.mk ((by rw [hg]; exact (below_size (by repeat (first | (with_reducible first | exact HB.out | apply below_alloc | apply pw_below_drewN | apply below_drew1 | refine below_set ?_ GE411.out | refine below_set ?_ GE412.out | refine below_set ?_ GE413.out) | exact HB.out))) : w.heap.size ≤ gb419))
         have n7_ := Aside0.mk ((by rw [hg]; exact Nat.ne_of_lt (blk_lt (g := gb411) (o := .cells #[.int .i64 a0_0, .int .i64 a0_1, .int .i64 a0_2] 23 (0, 0)) (by (with_reducible repeat (first | refine blk_drewN ?_ _ | refine blk_drew ?_ | refine blk_alloc ?_ _)); exact BK411.out)) : gb411 ≠ gb419))
         have n8_ := Aside0.mk ((by rw [hg]; exact Nat.ne_of_gt (blk_lt (g := gb411) (o := .cells #[.int .i64 a0_0, .int .i64 a0_1, .int .i64 a0_2] 23 (0, 0)) (by (with_reducible repeat (first | refine blk_drewN ?_ _ | refine blk_drew ?_ | refine blk_alloc ?_ _)); exact BK411.out)) : gb419 ≠ gb411))
         have n9_ := Aside0.mk ((by rw [hg]; exact Nat.ne_of_lt (blk_lt (g := gb412) (o := .cells #[.int .u32 a3_0, .int .u8 a3_1, .int .i64 a3_2, .int .i64 a3_3, .int .i64 a3_4] 28 (0, 0)) (by (with_reducible repeat (first | refine blk_drewN ?_ _ | refine blk_drew ?_ | refine blk_alloc ?_ _)); exact BK412.out)) : gb412 ≠ gb419))
         have n10_ := Aside0.mk ((by rw [hg]; exact Nat.ne_of_gt (blk_lt (g := gb412) (o := .cells #[.int .u32 a3_0, .int .u8 a3_1, .int .i64 a3_2, .int .i64 a3_3, .int .i64 a3_4] 28 (0, 0)) (by (with_reducible repeat (first | refine blk_drewN ?_ _ | refine blk_drew ?_ | refine blk_alloc ?_ _)); exact BK412.out)) : gb419 ≠ gb412))
         have n11_ := Aside0.mk ((by rw [hg]; exact Nat.ne_of_lt (blk_lt (g := gb413) (o := .cells #[.int .u32 a4_0, .int .u8 a4_1, .int .i64 a4_2, .int .i64 a4_3, .int .i64 a4_4] 28 (0, 0)) (by (with_reducible repeat (first | refine blk_drewN ?_ _ | refine blk_drew ?_ | refine blk_alloc ?_ _)); exact BK413.out)) : gb413 ≠ gb419))
         have n12_ := Aside0.mk ((by rw [hg]; exact Nat.ne_of_gt (blk_lt (g := gb413) (o := .cells #[.int .u32 a4_0, .int .u8 a4_1, .int .i64 a4_2, .int .i64 a4_3, .int .i64 a4_4] 28 (0, 0)) (by (with_reducible repeat (first | refine blk_drewN ?_ _ | refine blk_drew ?_ | refine blk_alloc ?_ _)); exact BK413.out)) : gb419 ≠ gb413))
         clear BK411
         clear BK412
         clear BK413
         clear HB
         have BK411 := n0_
         have BK412 := n1_
         have BK413 := n2_
         have HB := n3_
         have BK419 := n4_
         have GW419 := n5_
         have GE419 := n6_
         have NB411_419 := n7_
         have NB419_411 := n8_
         have NB412_419 := n9_
         have NB419_412 := n10_
         have NB413_419 := n11_
         have NB419_413 := n12_
         clear n0_ n1_ n2_ n3_ n4_ n5_ n6_ n7_ n8_ n9_ n10_ n11_ n12_
         clear hb hbox hg
         refine hK.out _ _ ⟨(blk_cell BK412.out 0).trans rfl, (blk_cell BK412.out 1).trans rfl, (blk_cell BK412.out 2).trans rfl, (blk_cell BK412.out 3).trans rfl, (blk_cell BK412.out 4).trans rfl, (blk_cell BK413.out 0).trans rfl, (blk_cell BK413.out 1).trans rfl, (blk_cell BK413.out 2).trans rfl, (blk_cell BK413.out 3).trans rfl, (blk_cell BK413.out 4).trans rfl⟩ (fun hHeld => ?_)
         clear hK K
         refine norm_ (a' := ?_) ?_ ?_
         rotate_left
         ·
          show Act.put _ (some 15) _ = _
          simp only [Act.put, List.setIfInBounds_toArray, List.set_cons_zero, List.set_cons_succ, i64_w, i32_w]
          rfl
         refine one_ (i := 2) (N := some 14) #[true, true, true, true, false, false] rfl rfl (by kernel_rfl) (by decide) (fun K hK => ?_)
         refine box_step ?hg (N := 14) ?hd (cs := #[.int .u32 0, .int .u8 0, .int .i64 0, .int .i64 0, .int .i64 0]) (t := 28) ?hr ?_; (case hd => rfl); (case hg => rfl); (case hr => first | (go_simp; done) | (go_simp; rfl))
         intro gb418 hg w50 hbox hb
         have n0_ := Aside0.mk (blk_below (g := gb411) (o := .cells #[.int .i64 a0_0, .int .i64 a0_1, .int .i64 a0_2] 23 (0, 0)) (by (with_reducible repeat (first | refine blk_drewN ?_ _ | refine blk_drew ?_ | refine blk_alloc ?_ _)); exact BK411.out) hb)
         have n1_ := Aside0.mk (blk_below (g := gb412) (o := .cells #[.int .u32 a3_0, .int .u8 a3_1, .int .i64 a3_2, .int .i64 a3_3, .int .i64 a3_4] 28 (0, 0)) (by (with_reducible repeat (first | refine blk_drewN ?_ _ | refine blk_drew ?_ | refine blk_alloc ?_ _)); exact BK412.out) hb)
         have n2_ := Aside0.mk (blk_below (g := gb413) (o := .cells #[.int .u32 a4_0, .int .u8 a4_1, .int .i64 a4_2, .int .i64 a4_3, .int .i64 a4_4] 28 (0, 0)) (by (with_reducible repeat (first | refine blk_drewN ?_ _ | refine blk_drew ?_ | refine blk_alloc ?_ _)); exact BK413.out) hb)
         have n3_ := Aside0.mk (blk_below (g := gb419) (o := .cells #[.int .u32 0, .int .u8 0, .int .i64 0, .int .i64 0, .int .i64 0] 28 (0, 0)) (by (with_reducible repeat (first | refine blk_drewN ?_ _ | refine blk_drew ?_ | refine blk_alloc ?_ _)); exact BK419.out) hb)
         have n4_ := Aside0.mk (below_step (by repeat (first | (with_reducible first | exact HB.out | apply below_alloc | apply pw_below_drewN | apply below_drew1 | refine below_set ?_ GE411.out | refine below_set ?_ GE412.out | refine below_set ?_ GE413.out | refine below_set ?_ GE419.out) | exact HB.out)) hb)
         have n5_ := Aside0.mk (hbox)
         have n6_ := Aside0.mk ((by rw [hg]; exact (below_size (by repeat (first | (with_reducible first | exact HB.out | apply below_alloc | apply pw_below_drewN | apply below_drew1 | refine below_set ?_ GE411.out | refine below_set ?_ GE412.out | refine below_set ?_ GE413.out | refine below_set ?_ GE419.out) | exact HB.out))) : w.heap.size ≤ gb418))
         have n7_ := Aside0.mk ((by rw [hg]; exact (below_size (by repeat (first | (with_reducible first | exact HB.out | apply below_alloc | apply pw_below_drewN | apply below_drew1 | refine below_set ?_ GE411.out | refine below_set ?_ GE412.out | refine below_set ?_ GE413.out | refine below_set ?_ GE419.out) | exact HB.out))) : w.heap.size ≤ gb418))
         have n8_ := Aside0.mk ((by rw [hg]; exact Nat.ne_of_lt (blk_lt (g := gb411) (o := .cells #[.int .i64 a0_0, .int .i64 a0_1, .int .i64 a0_2] 23 (0, 0)) (by (with_reducible repeat (first | refine blk_drewN ?_ _ | refine blk_drew ?_ | refine blk_alloc ?_ _)); exact BK411.out)) : gb411 ≠ gb418))
         have n9_ := Aside0.mk ((by rw [hg]; exact Nat.ne_of_gt (blk_lt (g := gb411) (o := .cells #[.int .i64 a0_0, .int .i64 a0_1, .int .i64 a0_2] 23 (0, 0)) (by (with_reducible repeat (first | refine blk_drewN ?_ _ | refine blk_drew ?_ | refine blk_alloc ?_ _)); exact BK411.out)) : gb418 ≠ gb411))
         have n10_ := Aside0.mk ((by rw [hg]; exact Nat.ne_of_lt (blk_lt (g := gb412) (o := .cells #[.int .u32 a3_0, .int .u8 a3_1, .int .i64 a3_2, .int .i64 a3_3, .int .i64 a3_4] 28 (0, 0)) (by (with_reducible repeat (first | refine blk_drewN ?_ _ | refine blk_drew ?_ | refine blk_alloc ?_ _)); exact BK412.out)) : gb412 ≠ gb418))
         have n11_ := Aside0.mk ((by rw [hg]; exact Nat.ne_of_gt (blk_lt (g := gb412) (o := .cells #[.int .u32 a3_0, .int .u8 a3_1, .int .i64 a3_2, .int .i64 a3_3, .int .i64 a3_4] 28 (0, 0)) (by (with_reducible repeat (first | refine blk_drewN ?_ _ | refine blk_drew ?_ | refine blk_alloc ?_ _)); exact BK412.out)) : gb418 ≠ gb412))
         have n12_ := Aside0.mk ((by rw [hg]; exact Nat.ne_of_lt (blk_lt (g := gb413) (o := .cells #[.int .u32 a4_0, .int .u8 a4_1, .int .i64 a4_2, .int .i64 a4_3, .int .i64 a4_4] 28 (0, 0)) (by (with_reducible repeat (first | refine blk_drewN ?_ _ | refine blk_drew ?_ | refine blk_alloc ?_ _)); exact BK413.out)) : gb413 ≠ gb418))
         have n13_ := Aside0.mk ((by rw [hg]; exact Nat.ne_of_gt (blk_lt (g := gb413) (o := .cells #[.int .u32 a4_0, .int .u8 a4_1, .int .i64 a4_2, .int .i64 a4_3, .int .i64 a4_4] 28 (0, 0)) (by (with_reducible repeat (first | refine blk_drewN ?_ _ | refine blk_drew ?_ | refine blk_alloc ?_ _)); exact BK413.out)) : gb418 ≠ gb413))
         have n14_ := Aside0.mk ((by rw [hg]; exact Nat.ne_of_lt (blk_lt (g := gb419) (o := .cells #[.int .u32 0, .int .u8 0, .int .i64 0, .int .i64 0, .int .i64 0] 28 (0, 0)) (by (with_reducible repeat (first | refine blk_drewN ?_ _ | refine blk_drew ?_ | refine blk_alloc ?_ _)); exact BK419.out)) : gb419 ≠ gb418))
         have n15_ := Aside0.mk ((by rw [hg]; exact Nat.ne_of_gt (blk_lt (g := gb419) (o := .cells #[.int .u32 0, .int .u8 0, .int .i64 0, .int .i64 0, .int .i64 0] 28 (0, 0)) (by (with_reducible repeat (first | refine blk_drewN ?_ _ | refine blk_drew ?_ | refine blk_alloc ?_ _)); exact BK419.out)) : gb418 ≠ gb419))
         clear BK411
         clear BK412
         clear BK413
         clear BK419
         clear HB
         have BK411 := n0_
         have BK412 := n1_
         have BK413 := n2_
         have BK419 := n3_
         have HB := n4_
         have BK418 := n5_
         have GW418 := n6_
         have GE418 := n7_
         have NB411_418 := n8_
         have NB418_411 := n9_
         have NB412_418 := n10_
         have NB418_412 := n11_
         have NB413_418 := n12_
         have NB418_413 := n13_
         have NB419_418 := n14_
         have NB418_419 := n15_
         clear n0_ n1_ n2_ n3_ n4_ n5_ n6_ n7_ n8_ n9_ n10_ n11_ n12_ n13_ n14_ n15_
         clear hb hbox hg
         refine hK.out _ _ ⟨(blk_cell BK412.out 0).trans rfl, (blk_cell BK412.out 1).trans rfl, (blk_cell BK412.out 2).trans rfl, (blk_cell BK412.out 3).trans rfl, (blk_cell BK412.out 4).trans rfl, (blk_cell BK413.out 0).trans rfl, (blk_cell BK413.out 1).trans rfl, (blk_cell BK413.out 2).trans rfl, (blk_cell BK413.out 3).trans rfl, (blk_cell BK413.out 4).trans rfl⟩ (fun hHeld => ?_)
         clear hK K
         refine norm_ (a' := ?_) ?_ ?_
         rotate_left
         ·
          show Act.put _ (some 14) _ = _
          simp only [Act.put, List.setIfInBounds_toArray, List.set_cons_zero, List.set_cons_succ, i64_w, i32_w]
          rfl
         exact norm_ (by simp only [putAll, Act.put, List.setIfInBounds_toArray, List.set_cons_zero, List.set_cons_succ]) (hCont (gb418, gb419) _ ⟨hHeld, (by (with_reducible repeat (first | refine blk_drewN ?_ _ | refine blk_drew ?_ | refine blk_alloc ?_ _)); exact BK411.out), (by (with_reducible repeat (first | refine blk_drewN ?_ _ | refine blk_drew ?_ | refine blk_alloc ?_ _)); exact BK412.out), (by (with_reducible repeat (first | refine blk_drewN ?_ _ | refine blk_drew ?_ | refine blk_alloc ?_ _)); exact BK413.out), (by (with_reducible repeat (first | refine blk_drewN ?_ _ | refine blk_drew ?_ | refine blk_alloc ?_ _)); exact BK418.out), (by (with_reducible repeat (first | refine blk_drewN ?_ _ | refine blk_drew ?_ | refine blk_alloc ?_ _)); exact BK419.out), GW418.out, GE418.out, NB411_418.out, NB418_411.out, NB412_418.out, NB418_412.out, NB413_418.out, NB418_413.out, NB419_418.out, NB418_419.out, GW419.out, GE419.out, NB411_419.out, NB419_411.out, NB412_419.out, NB419_412.out, NB413_419.out, NB419_413.out, (by repeat (first | (with_reducible first | exact HB.out | apply below_alloc | apply pw_below_drewN | apply below_drew1 | refine below_set ?_ GE411.out | refine below_set ?_ GE412.out | refine below_set ?_ GE413.out | refine below_set ?_ GE419.out | refine below_set ?_ GE418.out) | exact HB.out))⟩)
       rintro ⟨gb418, gb419⟩ w51 ⟨hS_, h0_, h1_, h2_, h3_, h4_, h5_, h6_, h7_, h8_, h9_, h10_, h11_, h12_, h13_, h14_, h15_, h16_, h17_, h18_, h19_, h20_, h21_, h22_, h23_⟩
       have n0_ : Aside0 (w51.heap[gb411]? = some (.cells #[.int .i64 a0_0, .int .i64 a0_1, .int .i64 a0_2] 23 (0, 0))) := ⟨h0_⟩
       have n1_ : Aside0 (w51.heap[gb412]? = some (.cells #[.int .u32 a3_0, .int .u8 a3_1, .int .i64 a3_2, .int .i64 a3_3, .int .i64 a3_4] 28 (0, 0))) := ⟨h1_⟩
       have n2_ : Aside0 (w51.heap[gb413]? = some (.cells #[.int .u32 a4_0, .int .u8 a4_1, .int .i64 a4_2, .int .i64 a4_3, .int .i64 a4_4] 28 (0, 0))) := ⟨h2_⟩
       have n3_ : Aside0 (w51.heap[gb418]? = some (.cells #[.int .u32 0, .int .u8 0, .int .i64 0, .int .i64 0, .int .i64 0] 28 (0, 0))) := ⟨h3_⟩
       have n4_ : Aside0 (w51.heap[gb419]? = some (.cells #[.int .u32 0, .int .u8 0, .int .i64 0, .int .i64 0, .int .i64 0] 28 (0, 0))) := ⟨h4_⟩
       have n5_ : Aside0 (w.heap.size ≤ gb418) := ⟨h5_⟩
       have n6_ : Aside0 (w.heap.size ≤ gb418) := ⟨h6_⟩
       have n7_ : Aside0 (gb411 ≠ gb418) := ⟨h7_⟩
       have n8_ : Aside0 (gb418 ≠ gb411) := ⟨h8_⟩
       have n9_ : Aside0 (gb412 ≠ gb418) := ⟨h9_⟩
       have n10_ : Aside0 (gb418 ≠ gb412) := ⟨h10_⟩
       have n11_ : Aside0 (gb413 ≠ gb418) := ⟨h11_⟩
       have n12_ : Aside0 (gb418 ≠ gb413) := ⟨h12_⟩
       have n13_ : Aside0 (gb419 ≠ gb418) := ⟨h13_⟩
       have n14_ : Aside0 (gb418 ≠ gb419) := ⟨h14_⟩
       have n15_ : Aside0 (w.heap.size ≤ gb419) := ⟨h15_⟩
       have n16_ : Aside0 (w.heap.size ≤ gb419) := ⟨h16_⟩
       have n17_ : Aside0 (gb411 ≠ gb419) := ⟨h17_⟩
       have n18_ : Aside0 (gb419 ≠ gb411) := ⟨h18_⟩
       have n19_ : Aside0 (gb412 ≠ gb419) := ⟨h19_⟩
       have n20_ : Aside0 (gb419 ≠ gb412) := ⟨h20_⟩
       have n21_ : Aside0 (gb413 ≠ gb419) := ⟨h21_⟩
       have n22_ : Aside0 (gb419 ≠ gb413) := ⟨h22_⟩
       have n23_ : Aside0 (Below w.heap.size w w51) := ⟨h23_⟩
       clear BK411
       clear BK412
       clear BK413
       clear HB
       clear h0_ h1_ h2_ h3_ h4_ h5_ h6_ h7_ h8_ h9_ h10_ h11_ h12_ h13_ h14_ h15_ h16_ h17_ h18_ h19_ h20_ h21_ h22_ h23_
       have BK411 := n0_
       have BK412 := n1_
       have BK413 := n2_
       have BK418 := n3_
       have BK419 := n4_
       have GW418 := n5_
       have GE418 := n6_
       have NB411_418 := n7_
       have NB418_411 := n8_
       have NB412_418 := n9_
       have NB418_412 := n10_
       have NB413_418 := n11_
       have NB418_413 := n12_
       have NB419_418 := n13_
       have NB418_419 := n14_
       have GW419 := n15_
       have GE419 := n16_
       have NB411_419 := n17_
       have NB419_411 := n18_
       have NB412_419 := n19_
       have NB419_412 := n20_
       have NB413_419 := n21_
       have NB419_413 := n22_
       have HB := n23_
       clear n0_ n1_ n2_ n3_ n4_ n5_ n6_ n7_ n8_ n9_ n10_ n11_ n12_ n13_ n14_ n15_ n16_ n17_ n18_ n19_ n20_ n21_ n22_ n23_
       have hHeld : w51.cell? ⟨gb412, 0, none⟩ = some (.int .u32 a3_0) ∧ w51.cell? ⟨gb412, 1, none⟩ = some (.int .u8 a3_1) ∧ w51.cell? ⟨gb412, 2, none⟩ = some (.int .i64 a3_2) ∧ w51.cell? ⟨gb412, 3, none⟩ = some (.int .i64 a3_3) ∧ w51.cell? ⟨gb412, 4, none⟩ = some (.int .i64 a3_4) ∧ w51.cell? ⟨gb413, 0, none⟩ = some (.int .u32 a4_0) ∧ w51.cell? ⟨gb413, 1, none⟩ = some (.int .u8 a4_1) ∧ w51.cell? ⟨gb413, 2, none⟩ = some (.int .i64 a4_2) ∧ w51.cell? ⟨gb413, 3, none⟩ = some (.int .i64 a4_3) ∧ w51.cell? ⟨gb413, 4, none⟩ = some (.int .i64 a4_4) := hS_
       refine norm_ (a' := ?_) ?_ ?_
       rotate_left
       ·
        simp only [putAll, Act.put, List.setIfInBounds_toArray, List.set_cons_zero, List.set_cons_succ]
        rfl
       refine one_ (i := 4) (N := none) #[true, true, true, true, true, false] rfl rfl (by kernel_rfl) (by decide) (fun K hK => ?_)
       have hs52 : w51.cell? ⟨gb418, 0, none⟩ = some (.int .u32 0) := (blk_cell BK418.out 0).trans rfl
       have hfs52 := blk_frozen BK418.out 0
       have hns52_0 := NB411_418.out
       have hns52_1 := NB412_418.out
       have hns52_2 := NB413_418.out
       have hns52_4 := NB419_418.out
       have hms52_0 := NB418_411.out
       have hms52_1 := NB418_412.out
       have hms52_2 := NB418_413.out
       have hms52_4 := NB418_419.out
       have hs53 : w51.cell? ⟨gb418, 1, none⟩ = some (.int .u8 0) := (blk_cell BK418.out 1).trans rfl
       have hfs53 := blk_frozen BK418.out 1
       have hns53_0 := NB411_418.out
       have hns53_1 := NB412_418.out
       have hns53_2 := NB413_418.out
       have hns53_4 := NB419_418.out
       have hms53_0 := NB418_411.out
       have hms53_1 := NB418_412.out
       have hms53_2 := NB418_413.out
       have hms53_4 := NB418_419.out
       have hs54 : w51.cell? ⟨gb418, 2, none⟩ = some (.int .i64 0) := (blk_cell BK418.out 2).trans rfl
       have hfs54 := blk_frozen BK418.out 2
       have hns54_0 := NB411_418.out
       have hns54_1 := NB412_418.out
       have hns54_2 := NB413_418.out
       have hns54_4 := NB419_418.out
       have hms54_0 := NB418_411.out
       have hms54_1 := NB418_412.out
       have hms54_2 := NB418_413.out
       have hms54_4 := NB418_419.out
       have hs55 : w51.cell? ⟨gb418, 3, none⟩ = some (.int .i64 0) := (blk_cell BK418.out 3).trans rfl
       have hfs55 := blk_frozen BK418.out 3
       have hns55_0 := NB411_418.out
       have hns55_1 := NB412_418.out
       have hns55_2 := NB413_418.out
       have hns55_4 := NB419_418.out
       have hms55_0 := NB418_411.out
       have hms55_1 := NB418_412.out
       have hms55_2 := NB418_413.out
       have hms55_4 := NB418_419.out
       have hs56 : w51.cell? ⟨gb418, 4, none⟩ = some (.int .i64 0) := (blk_cell BK418.out 4).trans rfl
       have hfs56 := blk_frozen BK418.out 4
       have hns56_0 := NB411_418.out
       have hns56_1 := NB412_418.out
       have hns56_2 := NB413_418.out
       have hns56_4 := NB419_418.out
       have hms56_0 := NB418_411.out
       have hms56_1 := NB418_412.out
       have hms56_2 := NB418_413.out
       have hms56_4 := NB418_419.out
       refine skip_ (w1 := ?_) (by rfl) rfl ?_ ?_
       rotate_left
       ·
        go_simp
        rfl
       refine hK.out _ _ ⟨((cell_far (p := ⟨gb418, _, none⟩) NB412_418.out _).trans (((cell_far (p := ⟨gb418, _, none⟩) NB412_418.out _).trans (((cell_far (p := ⟨gb418, _, none⟩) NB412_418.out _).trans (((cell_far (p := ⟨gb418, _, none⟩) NB412_418.out _).trans (((cell_far (p := ⟨gb418, _, none⟩) NB412_418.out _).trans (hHeld.1)))))))))), ((cell_far (p := ⟨gb418, _, none⟩) NB412_418.out _).trans (((cell_far (p := ⟨gb418, _, none⟩) NB412_418.out _).trans (((cell_far (p := ⟨gb418, _, none⟩) NB412_418.out _).trans (((cell_far (p := ⟨gb418, _, none⟩) NB412_418.out _).trans (((cell_far (p := ⟨gb418, _, none⟩) NB412_418.out _).trans (hHeld.2.1)))))))))), ((cell_far (p := ⟨gb418, _, none⟩) NB412_418.out _).trans (((cell_far (p := ⟨gb418, _, none⟩) NB412_418.out _).trans (((cell_far (p := ⟨gb418, _, none⟩) NB412_418.out _).trans (((cell_far (p := ⟨gb418, _, none⟩) NB412_418.out _).trans (((cell_far (p := ⟨gb418, _, none⟩) NB412_418.out _).trans (hHeld.2.2.1)))))))))), ((cell_far (p := ⟨gb418, _, none⟩) NB412_418.out _).trans (((cell_far (p := ⟨gb418, _, none⟩) NB412_418.out _).trans (((cell_far (p := ⟨gb418, _, none⟩) NB412_418.out _).trans (((cell_far (p := ⟨gb418, _, none⟩) NB412_418.out _).trans (((cell_far (p := ⟨gb418, _, none⟩) NB412_418.out _).trans (hHeld.2.2.2.1)))))))))), ((cell_far (p := ⟨gb418, _, none⟩) NB412_418.out _).trans (((cell_far (p := ⟨gb418, _, none⟩) NB412_418.out _).trans (((cell_far (p := ⟨gb418, _, none⟩) NB412_418.out _).trans (((cell_far (p := ⟨gb418, _, none⟩) NB412_418.out _).trans (((cell_far (p := ⟨gb418, _, none⟩) NB412_418.out _).trans (hHeld.2.2.2.2.1)))))))))), ((cell_far (p := ⟨gb418, _, none⟩) NB413_418.out _).trans (((cell_far (p := ⟨gb418, _, none⟩) NB413_418.out _).trans (((cell_far (p := ⟨gb418, _, none⟩) NB413_418.out _).trans (((cell_far (p := ⟨gb418, _, none⟩) NB413_418.out _).trans (((cell_far (p := ⟨gb418, _, none⟩) NB413_418.out _).trans (hHeld.2.2.2.2.2.1)))))))))), ((cell_far (p := ⟨gb418, _, none⟩) NB413_418.out _).trans (((cell_far (p := ⟨gb418, _, none⟩) NB413_418.out _).trans (((cell_far (p := ⟨gb418, _, none⟩) NB413_418.out _).trans (((cell_far (p := ⟨gb418, _, none⟩) NB413_418.out _).trans (((cell_far (p := ⟨gb418, _, none⟩) NB413_418.out _).trans (hHeld.2.2.2.2.2.2.1)))))))))), ((cell_far (p := ⟨gb418, _, none⟩) NB413_418.out _).trans (((cell_far (p := ⟨gb418, _, none⟩) NB413_418.out _).trans (((cell_far (p := ⟨gb418, _, none⟩) NB413_418.out _).trans (((cell_far (p := ⟨gb418, _, none⟩) NB413_418.out _).trans (((cell_far (p := ⟨gb418, _, none⟩) NB413_418.out _).trans (hHeld.2.2.2.2.2.2.2.1)))))))))), ((cell_far (p := ⟨gb418, _, none⟩) NB413_418.out _).trans (((cell_far (p := ⟨gb418, _, none⟩) NB413_418.out _).trans (((cell_far (p := ⟨gb418, _, none⟩) NB413_418.out _).trans (((cell_far (p := ⟨gb418, _, none⟩) NB413_418.out _).trans (((cell_far (p := ⟨gb418, _, none⟩) NB413_418.out _).trans (hHeld.2.2.2.2.2.2.2.2.1)))))))))), ((cell_far (p := ⟨gb418, _, none⟩) NB413_418.out _).trans (((cell_far (p := ⟨gb418, _, none⟩) NB413_418.out _).trans (((cell_far (p := ⟨gb418, _, none⟩) NB413_418.out _).trans (((cell_far (p := ⟨gb418, _, none⟩) NB413_418.out _).trans (((cell_far (p := ⟨gb418, _, none⟩) NB413_418.out _).trans (hHeld.2.2.2.2.2.2.2.2.2))))))))))⟩ (fun hHeld => ?_)
       clear hK K
       refine one_ (i := 5) (N := none) #[true, true, true, true, true, true] rfl rfl (by kernel_rfl) (by decide) (fun K hK => ?_)
       have hs57 : w51.cell? ⟨gb419, 0, none⟩ = some (.int .u32 0) := (blk_cell BK419.out 0).trans rfl
       have hfs57 := blk_frozen BK419.out 0
       have hns57_0 := NB411_419.out
       have hns57_1 := NB412_419.out
       have hns57_2 := NB413_419.out
       have hns57_3 := NB418_419.out
       have hms57_0 := NB419_411.out
       have hms57_1 := NB419_412.out
       have hms57_2 := NB419_413.out
       have hms57_3 := NB419_418.out
       have hs58 : w51.cell? ⟨gb419, 1, none⟩ = some (.int .u8 0) := (blk_cell BK419.out 1).trans rfl
       have hfs58 := blk_frozen BK419.out 1
       have hns58_0 := NB411_419.out
       have hns58_1 := NB412_419.out
       have hns58_2 := NB413_419.out
       have hns58_3 := NB418_419.out
       have hms58_0 := NB419_411.out
       have hms58_1 := NB419_412.out
       have hms58_2 := NB419_413.out
       have hms58_3 := NB419_418.out
       have hs59 : w51.cell? ⟨gb419, 2, none⟩ = some (.int .i64 0) := (blk_cell BK419.out 2).trans rfl
       have hfs59 := blk_frozen BK419.out 2
       have hns59_0 := NB411_419.out
       have hns59_1 := NB412_419.out
       have hns59_2 := NB413_419.out
       have hns59_3 := NB418_419.out
       have hms59_0 := NB419_411.out
       have hms59_1 := NB419_412.out
       have hms59_2 := NB419_413.out
       have hms59_3 := NB419_418.out
       have hs60 : w51.cell? ⟨gb419, 3, none⟩ = some (.int .i64 0) := (blk_cell BK419.out 3).trans rfl
       have hfs60 := blk_frozen BK419.out 3
       have hns60_0 := NB411_419.out
       have hns60_1 := NB412_419.out
       have hns60_2 := NB413_419.out
       have hns60_3 := NB418_419.out
       have hms60_0 := NB419_411.out
       have hms60_1 := NB419_412.out
       have hms60_2 := NB419_413.out
       have hms60_3 := NB419_418.out
       have hs61 : w51.cell? ⟨gb419, 4, none⟩ = some (.int .i64 0) := (blk_cell BK419.out 4).trans rfl
       have hfs61 := blk_frozen BK419.out 4
       have hns61_0 := NB411_419.out
       have hns61_1 := NB412_419.out
       have hns61_2 := NB413_419.out
       have hns61_3 := NB418_419.out
       have hms61_0 := NB419_411.out
       have hms61_1 := NB419_412.out
       have hms61_2 := NB419_413.out
       have hms61_3 := NB419_418.out
       refine skip_ (w1 := ?_) (by rfl) rfl ?_ ?_
       rotate_left
       ·
        go_simp
        rfl
       refine hK.out _ _ ⟨((cell_far (p := ⟨gb419, _, none⟩) NB412_419.out _).trans (((cell_far (p := ⟨gb419, _, none⟩) NB412_419.out _).trans (((cell_far (p := ⟨gb419, _, none⟩) NB412_419.out _).trans (((cell_far (p := ⟨gb419, _, none⟩) NB412_419.out _).trans (((cell_far (p := ⟨gb419, _, none⟩) NB412_419.out _).trans (hHeld.1)))))))))), ((cell_far (p := ⟨gb419, _, none⟩) NB412_419.out _).trans (((cell_far (p := ⟨gb419, _, none⟩) NB412_419.out _).trans (((cell_far (p := ⟨gb419, _, none⟩) NB412_419.out _).trans (((cell_far (p := ⟨gb419, _, none⟩) NB412_419.out _).trans (((cell_far (p := ⟨gb419, _, none⟩) NB412_419.out _).trans (hHeld.2.1)))))))))), ((cell_far (p := ⟨gb419, _, none⟩) NB412_419.out _).trans (((cell_far (p := ⟨gb419, _, none⟩) NB412_419.out _).trans (((cell_far (p := ⟨gb419, _, none⟩) NB412_419.out _).trans (((cell_far (p := ⟨gb419, _, none⟩) NB412_419.out _).trans (((cell_far (p := ⟨gb419, _, none⟩) NB412_419.out _).trans (hHeld.2.2.1)))))))))), ((cell_far (p := ⟨gb419, _, none⟩) NB412_419.out _).trans (((cell_far (p := ⟨gb419, _, none⟩) NB412_419.out _).trans (((cell_far (p := ⟨gb419, _, none⟩) NB412_419.out _).trans (((cell_far (p := ⟨gb419, _, none⟩) NB412_419.out _).trans (((cell_far (p := ⟨gb419, _, none⟩) NB412_419.out _).trans (hHeld.2.2.2.1)))))))))), ((cell_far (p := ⟨gb419, _, none⟩) NB412_419.out _).trans (((cell_far (p := ⟨gb419, _, none⟩) NB412_419.out _).trans (((cell_far (p := ⟨gb419, _, none⟩) NB412_419.out _).trans (((cell_far (p := ⟨gb419, _, none⟩) NB412_419.out _).trans (((cell_far (p := ⟨gb419, _, none⟩) NB412_419.out _).trans (hHeld.2.2.2.2.1)))))))))), ((cell_far (p := ⟨gb419, _, none⟩) NB413_419.out _).trans (((cell_far (p := ⟨gb419, _, none⟩) NB413_419.out _).trans (((cell_far (p := ⟨gb419, _, none⟩) NB413_419.out _).trans (((cell_far (p := ⟨gb419, _, none⟩) NB413_419.out _).trans (((cell_far (p := ⟨gb419, _, none⟩) NB413_419.out _).trans (hHeld.2.2.2.2.2.1)))))))))), ((cell_far (p := ⟨gb419, _, none⟩) NB413_419.out _).trans (((cell_far (p := ⟨gb419, _, none⟩) NB413_419.out _).trans (((cell_far (p := ⟨gb419, _, none⟩) NB413_419.out _).trans (((cell_far (p := ⟨gb419, _, none⟩) NB413_419.out _).trans (((cell_far (p := ⟨gb419, _, none⟩) NB413_419.out _).trans (hHeld.2.2.2.2.2.2.1)))))))))), ((cell_far (p := ⟨gb419, _, none⟩) NB413_419.out _).trans (((cell_far (p := ⟨gb419, _, none⟩) NB413_419.out _).trans (((cell_far (p := ⟨gb419, _, none⟩) NB413_419.out _).trans (((cell_far (p := ⟨gb419, _, none⟩) NB413_419.out _).trans (((cell_far (p := ⟨gb419, _, none⟩) NB413_419.out _).trans (hHeld.2.2.2.2.2.2.2.1)))))))))), ((cell_far (p := ⟨gb419, _, none⟩) NB413_419.out _).trans (((cell_far (p := ⟨gb419, _, none⟩) NB413_419.out _).trans (((cell_far (p := ⟨gb419, _, none⟩) NB413_419.out _).trans (((cell_far (p := ⟨gb419, _, none⟩) NB413_419.out _).trans (((cell_far (p := ⟨gb419, _, none⟩) NB413_419.out _).trans (hHeld.2.2.2.2.2.2.2.2.1)))))))))), ((cell_far (p := ⟨gb419, _, none⟩) NB413_419.out _).trans (((cell_far (p := ⟨gb419, _, none⟩) NB413_419.out _).trans (((cell_far (p := ⟨gb419, _, none⟩) NB413_419.out _).trans (((cell_far (p := ⟨gb419, _, none⟩) NB413_419.out _).trans (((cell_far (p := ⟨gb419, _, none⟩) NB413_419.out _).trans (hHeld.2.2.2.2.2.2.2.2.2))))))))))⟩ (fun hHeld => ?_)
       clear hK K
       refine done_ (by kernel_rfl) ?_
       go_upto_if 45 with (fail)
       go_cut [] (fun wc => ∃ (kq : Nat) (x419000_46 : Int) (x419001_46 : Int) (x419002_46 : Int) (x419003_46 : Int), Aside0 (horariumlaw15_PairNever.j2 kq a1 a2 a5 x13_2 a0_0 a0_1 a0_2 a3_0 a3_1 a3_2 a3_3 a3_4 a4_0 a4_1 a4_2 a4_3 a4_4 x419000_46 x419001_46 x419002_46 x419003_46 a3_4 a4_0 a4_1 a4_2 a4_3 a4_4 = some r) ∧ Aside0 (kq ≤ k2) ∧ Aside0 (wc.heap[gb411]? = some (.cells #[.int .i64 a0_0, .int .i64 a0_1, .int .i64 a0_2] 23 (0, 0))) ∧ Aside0 (wc.heap[gb412]? = some (.cells #[.int .u32 a3_0, .int .u8 a3_1, .int .i64 a3_2, .int .i64 a3_3, .int .i64 a3_4] 28 (0, 0))) ∧ Aside0 (wc.heap[gb413]? = some (.cells #[.int .u32 a4_0, .int .u8 a4_1, .int .i64 a4_2, .int .i64 a4_3, .int .i64 a4_4] 28 (0, 0))) ∧ Aside0 (wc.heap[gb418]? = some (.cells #[.int .u32 x419000_46, .int .u8 x419001_46, .int .i64 x419002_46, .int .i64 x419003_46, .int .i64 a3_4] 28 (0, 0))) ∧ Aside0 (wc.heap[gb419]? = some (.cells #[.int .u32 a4_0, .int .u8 a4_1, .int .i64 a4_2, .int .i64 a4_3, .int .i64 a4_4] 28 (0, 0))) ∧ Aside0 (Below w.heap.size w wc))
       case first =>
        have H := HC47.out
        clear HC47
        by_cases c62 : (Int.tmod x13_2 2) = 1
        ·
         rw [if_pos c62] at H
         have c62b0 : ((Int.tmod x13_2 2) == 1) = true := beq_iff_eq.mpr c62
         have c62b1 : ((Int.tmod x13_2 2) != 1) = false := bne_eq_false_iff_eq.mpr c62
         clear c62
         (first | rw [c62b0] | (simp only [i64_w, i32_w]; rw [c62b0]) | skip)
         have H' := Aside0.mk H
         clear H
         have hnb63 := NB418_411.out
         have hnc63 := NB411_418.out
         have hnb64 := NB418_412.out
         have hnc64 := NB412_418.out
         have hnb65 := NB418_413.out
         have hnc65 := NB413_418.out
         have hnb66 := NB418_419.out
         have hnc66 := NB419_418.out
         have hcz67_0 : w51.cell? ⟨gb418, 0, none⟩ = some (.int .u32 0) := (blk_cell BK418.out 0).trans rfl
         have hcz67_1 : w51.cell? ⟨gb418, 1, none⟩ = some (.int .u8 0) := (blk_cell BK418.out 1).trans rfl
         have hcz67_2 : w51.cell? ⟨gb418, 2, none⟩ = some (.int .i64 0) := (blk_cell BK418.out 2).trans rfl
         have hcz67_3 : w51.cell? ⟨gb418, 3, none⟩ = some (.int .i64 0) := (blk_cell BK418.out 3).trans rfl
         have hcz67_4 : w51.cell? ⟨gb418, 4, none⟩ = some (.int .i64 0) := (blk_cell BK418.out 4).trans rfl
         have hfz67_0 := blk_frozen BK418.out 0
         have hfz67_1 := blk_frozen BK418.out 1
         have hfz67_2 := blk_frozen BK418.out 2
         have hfz67_3 := blk_frozen BK418.out 3
         have hfz67_4 := blk_frozen BK418.out 4
         go_wp2
         go_meet
         case rel => exact ⟨_, (0), (0), (0), (0), H', ⟨by have := HJ6.out; have := HK2.out; first | omega | exact Nat.le_refl _⟩, ⟨by (with_reducible repeat (first | refine blk_drewN ?_ _ | refine blk_drew ?_ | refine blk_alloc ?_ _)); refine blk_far ?_ NB411_418.out _; (with_reducible repeat (first | refine blk_drewN ?_ _ | refine blk_drew ?_ | refine blk_alloc ?_ _)); refine blk_far ?_ NB411_418.out _; (with_reducible repeat (first | refine blk_drewN ?_ _ | refine blk_drew ?_ | refine blk_alloc ?_ _)); refine blk_far ?_ NB411_418.out _; (with_reducible repeat (first | refine blk_drewN ?_ _ | refine blk_drew ?_ | refine blk_alloc ?_ _)); refine blk_far ?_ NB411_418.out _; (with_reducible repeat (first | refine blk_drewN ?_ _ | refine blk_drew ?_ | refine blk_alloc ?_ _)); refine blk_far ?_ NB411_419.out _; (with_reducible repeat (first | refine blk_drewN ?_ _ | refine blk_drew ?_ | refine blk_alloc ?_ _)); refine blk_far ?_ NB411_419.out _; (with_reducible repeat (first | refine blk_drewN ?_ _ | refine blk_drew ?_ | refine blk_alloc ?_ _)); refine blk_far ?_ NB411_419.out _; (with_reducible repeat (first | refine blk_drewN ?_ _ | refine blk_drew ?_ | refine blk_alloc ?_ _)); refine blk_far ?_ NB411_419.out _; (with_reducible repeat (first | refine blk_drewN ?_ _ | refine blk_drew ?_ | refine blk_alloc ?_ _)); refine blk_far ?_ NB411_419.out _; (with_reducible repeat (first | refine blk_drewN ?_ _ | refine blk_drew ?_ | refine blk_alloc ?_ _)); refine blk_far ?_ NB411_418.out _; (with_reducible repeat (first | refine blk_drewN ?_ _ | refine blk_drew ?_ | refine blk_alloc ?_ _)); refine blk_far ?_ NB411_418.out _; (with_reducible repeat (first | refine blk_drewN ?_ _ | refine blk_drew ?_ | refine blk_alloc ?_ _)); refine blk_far ?_ NB411_418.out _; (with_reducible repeat (first | refine blk_drewN ?_ _ | refine blk_drew ?_ | refine blk_alloc ?_ _)); refine blk_far ?_ NB411_418.out _; (with_reducible repeat (first | refine blk_drewN ?_ _ | refine blk_drew ?_ | refine blk_alloc ?_ _)); refine blk_far ?_ NB411_418.out _; (with_reducible repeat (first | refine blk_drewN ?_ _ | refine blk_drew ?_ | refine blk_alloc ?_ _)); exact BK411.out⟩, ⟨by (with_reducible repeat (first | refine blk_drewN ?_ _ | refine blk_drew ?_ | refine blk_alloc ?_ _)); refine blk_far ?_ NB412_418.out _; (with_reducible repeat (first | refine blk_drewN ?_ _ | refine blk_drew ?_ | refine blk_alloc ?_ _)); refine blk_far ?_ NB412_418.out _; (with_reducible repeat (first | refine blk_drewN ?_ _ | refine blk_drew ?_ | refine blk_alloc ?_ _)); refine blk_far ?_ NB412_418.out _; (with_reducible repeat (first | refine blk_drewN ?_ _ | refine blk_drew ?_ | refine blk_alloc ?_ _)); refine blk_far ?_ NB412_418.out _; (with_reducible repeat (first | refine blk_drewN ?_ _ | refine blk_drew ?_ | refine blk_alloc ?_ _)); refine blk_far ?_ NB412_419.out _; (with_reducible repeat (first | refine blk_drewN ?_ _ | refine blk_drew ?_ | refine blk_alloc ?_ _)); refine blk_far ?_ NB412_419.out _; (with_reducible repeat (first | refine blk_drewN ?_ _ | refine blk_drew ?_ | refine blk_alloc ?_ _)); refine blk_far ?_ NB412_419.out _; (with_reducible repeat (first | refine blk_drewN ?_ _ | refine blk_drew ?_ | refine blk_alloc ?_ _)); refine blk_far ?_ NB412_419.out _; (with_reducible repeat (first | refine blk_drewN ?_ _ | refine blk_drew ?_ | refine blk_alloc ?_ _)); refine blk_far ?_ NB412_419.out _; (with_reducible repeat (first | refine blk_drewN ?_ _ | refine blk_drew ?_ | refine blk_alloc ?_ _)); refine blk_far ?_ NB412_418.out _; (with_reducible repeat (first | refine blk_drewN ?_ _ | refine blk_drew ?_ | refine blk_alloc ?_ _)); refine blk_far ?_ NB412_418.out _; (with_reducible repeat (first | refine blk_drewN ?_ _ | refine blk_drew ?_ | refine blk_alloc ?_ _)); refine blk_far ?_ NB412_418.out _; (with_reducible repeat (first | refine blk_drewN ?_ _ | refine blk_drew ?_ | refine blk_alloc ?_ _)); refine blk_far ?_ NB412_418.out _; (with_reducible repeat (first | refine blk_drewN ?_ _ | refine blk_drew ?_ | refine blk_alloc ?_ _)); refine blk_far ?_ NB412_418.out _; (with_reducible repeat (first | refine blk_drewN ?_ _ | refine blk_drew ?_ | refine blk_alloc ?_ _)); exact BK412.out⟩, ⟨by (with_reducible repeat (first | refine blk_drewN ?_ _ | refine blk_drew ?_ | refine blk_alloc ?_ _)); refine blk_far ?_ NB413_418.out _; (with_reducible repeat (first | refine blk_drewN ?_ _ | refine blk_drew ?_ | refine blk_alloc ?_ _)); refine blk_far ?_ NB413_418.out _; (with_reducible repeat (first | refine blk_drewN ?_ _ | refine blk_drew ?_ | refine blk_alloc ?_ _)); refine blk_far ?_ NB413_418.out _; (with_reducible repeat (first | refine blk_drewN ?_ _ | refine blk_drew ?_ | refine blk_alloc ?_ _)); refine blk_far ?_ NB413_418.out _; (with_reducible repeat (first | refine blk_drewN ?_ _ | refine blk_drew ?_ | refine blk_alloc ?_ _)); refine blk_far ?_ NB413_419.out _; (with_reducible repeat (first | refine blk_drewN ?_ _ | refine blk_drew ?_ | refine blk_alloc ?_ _)); refine blk_far ?_ NB413_419.out _; (with_reducible repeat (first | refine blk_drewN ?_ _ | refine blk_drew ?_ | refine blk_alloc ?_ _)); refine blk_far ?_ NB413_419.out _; (with_reducible repeat (first | refine blk_drewN ?_ _ | refine blk_drew ?_ | refine blk_alloc ?_ _)); refine blk_far ?_ NB413_419.out _; (with_reducible repeat (first | refine blk_drewN ?_ _ | refine blk_drew ?_ | refine blk_alloc ?_ _)); refine blk_far ?_ NB413_419.out _; (with_reducible repeat (first | refine blk_drewN ?_ _ | refine blk_drew ?_ | refine blk_alloc ?_ _)); refine blk_far ?_ NB413_418.out _; (with_reducible repeat (first | refine blk_drewN ?_ _ | refine blk_drew ?_ | refine blk_alloc ?_ _)); refine blk_far ?_ NB413_418.out _; (with_reducible repeat (first | refine blk_drewN ?_ _ | refine blk_drew ?_ | refine blk_alloc ?_ _)); refine blk_far ?_ NB413_418.out _; (with_reducible repeat (first | refine blk_drewN ?_ _ | refine blk_drew ?_ | refine blk_alloc ?_ _)); refine blk_far ?_ NB413_418.out _; (with_reducible repeat (first | refine blk_drewN ?_ _ | refine blk_drew ?_ | refine blk_alloc ?_ _)); refine blk_far ?_ NB413_418.out _; (with_reducible repeat (first | refine blk_drewN ?_ _ | refine blk_drew ?_ | refine blk_alloc ?_ _)); exact BK413.out⟩, ⟨by (with_reducible repeat (first | refine blk_drewN ?_ _ | refine blk_drew ?_ | refine blk_alloc ?_ _)); refine blk_put (cs := #[.int .u32 0, .int .u8 0, .int .i64 0, .int .i64 a3_3, .int .i64 a3_4]) ?_ 3 _ rfl; (with_reducible repeat (first | refine blk_drewN ?_ _ | refine blk_drew ?_ | refine blk_alloc ?_ _)); refine blk_put (cs := #[.int .u32 0, .int .u8 0, .int .i64 a3_2, .int .i64 a3_3, .int .i64 a3_4]) ?_ 2 _ rfl; (with_reducible repeat (first | refine blk_drewN ?_ _ | refine blk_drew ?_ | refine blk_alloc ?_ _)); refine blk_put (cs := #[.int .u32 0, .int .u8 a3_1, .int .i64 a3_2, .int .i64 a3_3, .int .i64 a3_4]) ?_ 1 _ rfl; (with_reducible repeat (first | refine blk_drewN ?_ _ | refine blk_drew ?_ | refine blk_alloc ?_ _)); refine blk_put (cs := #[.int .u32 a3_0, .int .u8 a3_1, .int .i64 a3_2, .int .i64 a3_3, .int .i64 a3_4]) ?_ 0 _ rfl; (with_reducible repeat (first | refine blk_drewN ?_ _ | refine blk_drew ?_ | refine blk_alloc ?_ _)); refine blk_far ?_ NB418_419.out _; (with_reducible repeat (first | refine blk_drewN ?_ _ | refine blk_drew ?_ | refine blk_alloc ?_ _)); refine blk_far ?_ NB418_419.out _; (with_reducible repeat (first | refine blk_drewN ?_ _ | refine blk_drew ?_ | refine blk_alloc ?_ _)); refine blk_far ?_ NB418_419.out _; (with_reducible repeat (first | refine blk_drewN ?_ _ | refine blk_drew ?_ | refine blk_alloc ?_ _)); refine blk_far ?_ NB418_419.out _; (with_reducible repeat (first | refine blk_drewN ?_ _ | refine blk_drew ?_ | refine blk_alloc ?_ _)); refine blk_far ?_ NB418_419.out _; (with_reducible repeat (first | refine blk_drewN ?_ _ | refine blk_drew ?_ | refine blk_alloc ?_ _)); refine blk_put (cs := #[.int .u32 a3_0, .int .u8 a3_1, .int .i64 a3_2, .int .i64 a3_3, .int .i64 0]) ?_ 4 _ rfl; (with_reducible repeat (first | refine blk_drewN ?_ _ | refine blk_drew ?_ | refine blk_alloc ?_ _)); refine blk_put (cs := #[.int .u32 a3_0, .int .u8 a3_1, .int .i64 a3_2, .int .i64 0, .int .i64 0]) ?_ 3 _ rfl; (with_reducible repeat (first | refine blk_drewN ?_ _ | refine blk_drew ?_ | refine blk_alloc ?_ _)); refine blk_put (cs := #[.int .u32 a3_0, .int .u8 a3_1, .int .i64 0, .int .i64 0, .int .i64 0]) ?_ 2 _ rfl; (with_reducible repeat (first | refine blk_drewN ?_ _ | refine blk_drew ?_ | refine blk_alloc ?_ _)); refine blk_put (cs := #[.int .u32 a3_0, .int .u8 0, .int .i64 0, .int .i64 0, .int .i64 0]) ?_ 1 _ rfl; (with_reducible repeat (first | refine blk_drewN ?_ _ | refine blk_drew ?_ | refine blk_alloc ?_ _)); refine blk_put (cs := #[.int .u32 0, .int .u8 0, .int .i64 0, .int .i64 0, .int .i64 0]) ?_ 0 _ rfl; (with_reducible repeat (first | refine blk_drewN ?_ _ | refine blk_drew ?_ | refine blk_alloc ?_ _)); exact BK418.out⟩, ⟨by (with_reducible repeat (first | refine blk_drewN ?_ _ | refine blk_drew ?_ | refine blk_alloc ?_ _)); refine blk_far ?_ NB419_418.out _; (with_reducible repeat (first | refine blk_drewN ?_ _ | refine blk_drew ?_ | refine blk_alloc ?_ _)); refine blk_far ?_ NB419_418.out _; (with_reducible repeat (first | refine blk_drewN ?_ _ | refine blk_drew ?_ | refine blk_alloc ?_ _)); refine blk_far ?_ NB419_418.out _; (with_reducible repeat (first | refine blk_drewN ?_ _ | refine blk_drew ?_ | refine blk_alloc ?_ _)); refine blk_far ?_ NB419_418.out _; (with_reducible repeat (first | refine blk_drewN ?_ _ | refine blk_drew ?_ | refine blk_alloc ?_ _)); refine blk_put (cs := #[.int .u32 a4_0, .int .u8 a4_1, .int .i64 a4_2, .int .i64 a4_3, .int .i64 0]) ?_ 4 _ rfl; (with_reducible repeat (first | refine blk_drewN ?_ _ | refine blk_drew ?_ | refine blk_alloc ?_ _)); refine blk_put (cs := #[.int .u32 a4_0, .int .u8 a4_1, .int .i64 a4_2, .int .i64 0, .int .i64 0]) ?_ 3 _ rfl; (with_reducible repeat (first | refine blk_drewN ?_ _ | refine blk_drew ?_ | refine blk_alloc ?_ _)); refine blk_put (cs := #[.int .u32 a4_0, .int .u8 a4_1, .int .i64 0, .int .i64 0, .int .i64 0]) ?_ 2 _ rfl; (with_reducible repeat (first | refine blk_drewN ?_ _ | refine blk_drew ?_ | refine blk_alloc ?_ _)); refine blk_put (cs := #[.int .u32 a4_0, .int .u8 0, .int .i64 0, .int .i64 0, .int .i64 0]) ?_ 1 _ rfl; (with_reducible repeat (first | refine blk_drewN ?_ _ | refine blk_drew ?_ | refine blk_alloc ?_ _)); refine blk_put (cs := #[.int .u32 0, .int .u8 0, .int .i64 0, .int .i64 0, .int .i64 0]) ?_ 0 _ rfl; (with_reducible repeat (first | refine blk_drewN ?_ _ | refine blk_drew ?_ | refine blk_alloc ?_ _)); refine blk_far ?_ NB419_418.out _; (with_reducible repeat (first | refine blk_drewN ?_ _ | refine blk_drew ?_ | refine blk_alloc ?_ _)); refine blk_far ?_ NB419_418.out _; (with_reducible repeat (first | refine blk_drewN ?_ _ | refine blk_drew ?_ | refine blk_alloc ?_ _)); refine blk_far ?_ NB419_418.out _; (with_reducible repeat (first | refine blk_drewN ?_ _ | refine blk_drew ?_ | refine blk_alloc ?_ _)); refine blk_far ?_ NB419_418.out _; (with_reducible repeat (first | refine blk_drewN ?_ _ | refine blk_drew ?_ | refine blk_alloc ?_ _)); refine blk_far ?_ NB419_418.out _; (with_reducible repeat (first | refine blk_drewN ?_ _ | refine blk_drew ?_ | refine blk_alloc ?_ _)); exact BK419.out⟩, ⟨by repeat (first | (with_reducible first | exact HB.out | apply below_alloc | apply pw_below_drewN | apply below_drew1 | refine below_set ?_ GE411.out | refine below_set ?_ GE412.out | refine below_set ?_ GE413.out | refine below_set ?_ GE418.out | refine below_set ?_ GE419.out) | exact HB.out)⟩⟩
        ·
         rw [if_neg c62] at H
         have c62b0 : ((Int.tmod x13_2 2) == 1) = false := beq_eq_false_iff_ne.mpr c62
         have c62b1 : ((Int.tmod x13_2 2) != 1) = true := bne_iff_ne.mpr c62
         (first | rw [c62b0] | (simp only [i64_w, i32_w]; rw [c62b0]) | skip)
         have H' := Aside0.mk H
         clear H
         go_wp2
         go_meet
         case rel => exact ⟨_, (a3_0), (a3_1), (a3_2), (a3_3), H', ⟨by have := HJ6.out; have := HK2.out; first | omega | exact Nat.le_refl _⟩, ⟨by (with_reducible repeat (first | refine blk_drewN ?_ _ | refine blk_drew ?_ | refine blk_alloc ?_ _)); refine blk_far ?_ NB411_419.out _; (with_reducible repeat (first | refine blk_drewN ?_ _ | refine blk_drew ?_ | refine blk_alloc ?_ _)); refine blk_far ?_ NB411_419.out _; (with_reducible repeat (first | refine blk_drewN ?_ _ | refine blk_drew ?_ | refine blk_alloc ?_ _)); refine blk_far ?_ NB411_419.out _; (with_reducible repeat (first | refine blk_drewN ?_ _ | refine blk_drew ?_ | refine blk_alloc ?_ _)); refine blk_far ?_ NB411_419.out _; (with_reducible repeat (first | refine blk_drewN ?_ _ | refine blk_drew ?_ | refine blk_alloc ?_ _)); refine blk_far ?_ NB411_419.out _; (with_reducible repeat (first | refine blk_drewN ?_ _ | refine blk_drew ?_ | refine blk_alloc ?_ _)); refine blk_far ?_ NB411_418.out _; (with_reducible repeat (first | refine blk_drewN ?_ _ | refine blk_drew ?_ | refine blk_alloc ?_ _)); refine blk_far ?_ NB411_418.out _; (with_reducible repeat (first | refine blk_drewN ?_ _ | refine blk_drew ?_ | refine blk_alloc ?_ _)); refine blk_far ?_ NB411_418.out _; (with_reducible repeat (first | refine blk_drewN ?_ _ | refine blk_drew ?_ | refine blk_alloc ?_ _)); refine blk_far ?_ NB411_418.out _; (with_reducible repeat (first | refine blk_drewN ?_ _ | refine blk_drew ?_ | refine blk_alloc ?_ _)); refine blk_far ?_ NB411_418.out _; (with_reducible repeat (first | refine blk_drewN ?_ _ | refine blk_drew ?_ | refine blk_alloc ?_ _)); exact BK411.out⟩, ⟨by (with_reducible repeat (first | refine blk_drewN ?_ _ | refine blk_drew ?_ | refine blk_alloc ?_ _)); refine blk_far ?_ NB412_419.out _; (with_reducible repeat (first | refine blk_drewN ?_ _ | refine blk_drew ?_ | refine blk_alloc ?_ _)); refine blk_far ?_ NB412_419.out _; (with_reducible repeat (first | refine blk_drewN ?_ _ | refine blk_drew ?_ | refine blk_alloc ?_ _)); refine blk_far ?_ NB412_419.out _; (with_reducible repeat (first | refine blk_drewN ?_ _ | refine blk_drew ?_ | refine blk_alloc ?_ _)); refine blk_far ?_ NB412_419.out _; (with_reducible repeat (first | refine blk_drewN ?_ _ | refine blk_drew ?_ | refine blk_alloc ?_ _)); refine blk_far ?_ NB412_419.out _; (with_reducible repeat (first | refine blk_drewN ?_ _ | refine blk_drew ?_ | refine blk_alloc ?_ _)); refine blk_far ?_ NB412_418.out _; (with_reducible repeat (first | refine blk_drewN ?_ _ | refine blk_drew ?_ | refine blk_alloc ?_ _)); refine blk_far ?_ NB412_418.out _; (with_reducible repeat (first | refine blk_drewN ?_ _ | refine blk_drew ?_ | refine blk_alloc ?_ _)); refine blk_far ?_ NB412_418.out _; (with_reducible repeat (first | refine blk_drewN ?_ _ | refine blk_drew ?_ | refine blk_alloc ?_ _)); refine blk_far ?_ NB412_418.out _; (with_reducible repeat (first | refine blk_drewN ?_ _ | refine blk_drew ?_ | refine blk_alloc ?_ _)); refine blk_far ?_ NB412_418.out _; (with_reducible repeat (first | refine blk_drewN ?_ _ | refine blk_drew ?_ | refine blk_alloc ?_ _)); exact BK412.out⟩, ⟨by (with_reducible repeat (first | refine blk_drewN ?_ _ | refine blk_drew ?_ | refine blk_alloc ?_ _)); refine blk_far ?_ NB413_419.out _; (with_reducible repeat (first | refine blk_drewN ?_ _ | refine blk_drew ?_ | refine blk_alloc ?_ _)); refine blk_far ?_ NB413_419.out _; (with_reducible repeat (first | refine blk_drewN ?_ _ | refine blk_drew ?_ | refine blk_alloc ?_ _)); refine blk_far ?_ NB413_419.out _; (with_reducible repeat (first | refine blk_drewN ?_ _ | refine blk_drew ?_ | refine blk_alloc ?_ _)); refine blk_far ?_ NB413_419.out _; (with_reducible repeat (first | refine blk_drewN ?_ _ | refine blk_drew ?_ | refine blk_alloc ?_ _)); refine blk_far ?_ NB413_419.out _; (with_reducible repeat (first | refine blk_drewN ?_ _ | refine blk_drew ?_ | refine blk_alloc ?_ _)); refine blk_far ?_ NB413_418.out _; (with_reducible repeat (first | refine blk_drewN ?_ _ | refine blk_drew ?_ | refine blk_alloc ?_ _)); refine blk_far ?_ NB413_418.out _; (with_reducible repeat (first | refine blk_drewN ?_ _ | refine blk_drew ?_ | refine blk_alloc ?_ _)); refine blk_far ?_ NB413_418.out _; (with_reducible repeat (first | refine blk_drewN ?_ _ | refine blk_drew ?_ | refine blk_alloc ?_ _)); refine blk_far ?_ NB413_418.out _; (with_reducible repeat (first | refine blk_drewN ?_ _ | refine blk_drew ?_ | refine blk_alloc ?_ _)); refine blk_far ?_ NB413_418.out _; (with_reducible repeat (first | refine blk_drewN ?_ _ | refine blk_drew ?_ | refine blk_alloc ?_ _)); exact BK413.out⟩, ⟨by (with_reducible repeat (first | refine blk_drewN ?_ _ | refine blk_drew ?_ | refine blk_alloc ?_ _)); refine blk_far ?_ NB418_419.out _; (with_reducible repeat (first | refine blk_drewN ?_ _ | refine blk_drew ?_ | refine blk_alloc ?_ _)); refine blk_far ?_ NB418_419.out _; (with_reducible repeat (first | refine blk_drewN ?_ _ | refine blk_drew ?_ | refine blk_alloc ?_ _)); refine blk_far ?_ NB418_419.out _; (with_reducible repeat (first | refine blk_drewN ?_ _ | refine blk_drew ?_ | refine blk_alloc ?_ _)); refine blk_far ?_ NB418_419.out _; (with_reducible repeat (first | refine blk_drewN ?_ _ | refine blk_drew ?_ | refine blk_alloc ?_ _)); refine blk_far ?_ NB418_419.out _; (with_reducible repeat (first | refine blk_drewN ?_ _ | refine blk_drew ?_ | refine blk_alloc ?_ _)); refine blk_put (cs := #[.int .u32 a3_0, .int .u8 a3_1, .int .i64 a3_2, .int .i64 a3_3, .int .i64 0]) ?_ 4 _ rfl; (with_reducible repeat (first | refine blk_drewN ?_ _ | refine blk_drew ?_ | refine blk_alloc ?_ _)); refine blk_put (cs := #[.int .u32 a3_0, .int .u8 a3_1, .int .i64 a3_2, .int .i64 0, .int .i64 0]) ?_ 3 _ rfl; (with_reducible repeat (first | refine blk_drewN ?_ _ | refine blk_drew ?_ | refine blk_alloc ?_ _)); refine blk_put (cs := #[.int .u32 a3_0, .int .u8 a3_1, .int .i64 0, .int .i64 0, .int .i64 0]) ?_ 2 _ rfl; (with_reducible repeat (first | refine blk_drewN ?_ _ | refine blk_drew ?_ | refine blk_alloc ?_ _)); refine blk_put (cs := #[.int .u32 a3_0, .int .u8 0, .int .i64 0, .int .i64 0, .int .i64 0]) ?_ 1 _ rfl; (with_reducible repeat (first | refine blk_drewN ?_ _ | refine blk_drew ?_ | refine blk_alloc ?_ _)); refine blk_put (cs := #[.int .u32 0, .int .u8 0, .int .i64 0, .int .i64 0, .int .i64 0]) ?_ 0 _ rfl; (with_reducible repeat (first | refine blk_drewN ?_ _ | refine blk_drew ?_ | refine blk_alloc ?_ _)); exact BK418.out⟩, ⟨by (with_reducible repeat (first | refine blk_drewN ?_ _ | refine blk_drew ?_ | refine blk_alloc ?_ _)); refine blk_put (cs := #[.int .u32 a4_0, .int .u8 a4_1, .int .i64 a4_2, .int .i64 a4_3, .int .i64 0]) ?_ 4 _ rfl; (with_reducible repeat (first | refine blk_drewN ?_ _ | refine blk_drew ?_ | refine blk_alloc ?_ _)); refine blk_put (cs := #[.int .u32 a4_0, .int .u8 a4_1, .int .i64 a4_2, .int .i64 0, .int .i64 0]) ?_ 3 _ rfl; (with_reducible repeat (first | refine blk_drewN ?_ _ | refine blk_drew ?_ | refine blk_alloc ?_ _)); refine blk_put (cs := #[.int .u32 a4_0, .int .u8 a4_1, .int .i64 0, .int .i64 0, .int .i64 0]) ?_ 2 _ rfl; (with_reducible repeat (first | refine blk_drewN ?_ _ | refine blk_drew ?_ | refine blk_alloc ?_ _)); refine blk_put (cs := #[.int .u32 a4_0, .int .u8 0, .int .i64 0, .int .i64 0, .int .i64 0]) ?_ 1 _ rfl; (with_reducible repeat (first | refine blk_drewN ?_ _ | refine blk_drew ?_ | refine blk_alloc ?_ _)); refine blk_put (cs := #[.int .u32 0, .int .u8 0, .int .i64 0, .int .i64 0, .int .i64 0]) ?_ 0 _ rfl; (with_reducible repeat (first | refine blk_drewN ?_ _ | refine blk_drew ?_ | refine blk_alloc ?_ _)); refine blk_far ?_ NB419_418.out _; (with_reducible repeat (first | refine blk_drewN ?_ _ | refine blk_drew ?_ | refine blk_alloc ?_ _)); refine blk_far ?_ NB419_418.out _; (with_reducible repeat (first | refine blk_drewN ?_ _ | refine blk_drew ?_ | refine blk_alloc ?_ _)); refine blk_far ?_ NB419_418.out _; (with_reducible repeat (first | refine blk_drewN ?_ _ | refine blk_drew ?_ | refine blk_alloc ?_ _)); refine blk_far ?_ NB419_418.out _; (with_reducible repeat (first | refine blk_drewN ?_ _ | refine blk_drew ?_ | refine blk_alloc ?_ _)); refine blk_far ?_ NB419_418.out _; (with_reducible repeat (first | refine blk_drewN ?_ _ | refine blk_drew ?_ | refine blk_alloc ?_ _)); exact BK419.out⟩, ⟨by repeat (first | (with_reducible first | exact HB.out | apply below_alloc | apply pw_below_drewN | apply below_drew1 | refine below_set ?_ GE411.out | refine below_set ?_ GE412.out | refine below_set ?_ GE413.out | refine below_set ?_ GE418.out | refine below_set ?_ GE419.out) | exact HB.out)⟩⟩
       case rest =>
        clear HC47
        try clear c6
        try clear c46
        try clear c46b0
        try clear c62
        try clear c62b0
        try clear c62b1
        try clear c63
        try clear c64
        try clear c65
        try clear c66
        try clear hcz67_0
        try clear hcz67_1
        try clear hcz67_2
        try clear hcz67_3
        try clear hcz67_4
        try clear hfz67_0
        try clear hfz67_1
        try clear hfz67_2
        try clear hfz67_3
        try clear hfz67_4
        obtain ⟨kq, x419000_46, x419001_46, x419002_46, x419003_46, HA, HJ46, BK411, BK412, BK413, BK418, BK419, HB⟩ := hcut
        cases kq with
        | zero => exact absurd HA.out (by simp [horariumlaw15_PairNever.j2])
        | succ kj46 =>
         have H := HA.out
         clear HA
         simp only [horariumlaw15_PairNever.j2] at H
         have HC68 := Aside0.mk H
         clear H
         go_upto_if 51 with (fail)
         go_cut [] (fun wc => ∃ (kq : Nat) (x420000_67 : Int) (x420001_67 : Int) (x420002_67 : Int) (x420003_67 : Int), Aside0 (horariumlaw15_PairNever.j3 kq a1 a2 a5 x13_2 a0_0 a0_1 a0_2 a3_0 a3_1 a3_2 a3_3 a3_4 a4_0 a4_1 a4_2 a4_3 a4_4 x419000_46 x419001_46 x419002_46 x419003_46 a3_4 x420000_67 x420001_67 x420002_67 x420003_67 a4_4 = some r) ∧ Aside0 (kq ≤ kj46) ∧ Aside0 (wc.heap[gb411]? = some (.cells #[.int .i64 a0_0, .int .i64 a0_1, .int .i64 a0_2] 23 (0, 0))) ∧ Aside0 (wc.heap[gb412]? = some (.cells #[.int .u32 a3_0, .int .u8 a3_1, .int .i64 a3_2, .int .i64 a3_3, .int .i64 a3_4] 28 (0, 0))) ∧ Aside0 (wc.heap[gb413]? = some (.cells #[.int .u32 a4_0, .int .u8 a4_1, .int .i64 a4_2, .int .i64 a4_3, .int .i64 a4_4] 28 (0, 0))) ∧ Aside0 (wc.heap[gb418]? = some (.cells #[.int .u32 x419000_46, .int .u8 x419001_46, .int .i64 x419002_46, .int .i64 x419003_46, .int .i64 a3_4] 28 (0, 0))) ∧ Aside0 (wc.heap[gb419]? = some (.cells #[.int .u32 x420000_67, .int .u8 x420001_67, .int .i64 x420002_67, .int .i64 x420003_67, .int .i64 a4_4] 28 (0, 0))) ∧ Aside0 (Below w.heap.size w wc))
         case first =>
          have H := HC68.out
          clear HC68
          by_cases c69 : (Int.tmod (wrap64 (Int.tdiv x13_2 2)) 2) = 1
          ·
           rw [if_pos c69] at H
           have c69b0 : ((Int.tmod (wrap64 (Int.tdiv x13_2 2)) 2) == 1) = true := beq_iff_eq.mpr c69
           have c69b1 : ((Int.tmod (wrap64 (Int.tdiv x13_2 2)) 2) != 1) = false := bne_eq_false_iff_eq.mpr c69
           clear c69
           (first | rw [c69b0] | (simp only [i64_w, i32_w]; rw [c69b0]) | skip)
           have H' := Aside0.mk H
           clear H
           have hnb70 := NB419_411.out
           have hnc70 := NB411_419.out
           have hnb71 := NB419_412.out
           have hnc71 := NB412_419.out
           have hnb72 := NB419_413.out
           have hnc72 := NB413_419.out
           have hnb73 := NB419_418.out
           have hnc73 := NB418_419.out
           have hcz74_0 : wc.cell? ⟨gb419, 0, none⟩ = some (.int .u32 a4_0) := (blk_cell BK419.out 0).trans rfl
           have hcz74_1 : wc.cell? ⟨gb419, 1, none⟩ = some (.int .u8 a4_1) := (blk_cell BK419.out 1).trans rfl
           have hcz74_2 : wc.cell? ⟨gb419, 2, none⟩ = some (.int .i64 a4_2) := (blk_cell BK419.out 2).trans rfl
           have hcz74_3 : wc.cell? ⟨gb419, 3, none⟩ = some (.int .i64 a4_3) := (blk_cell BK419.out 3).trans rfl
           have hcz74_4 : wc.cell? ⟨gb419, 4, none⟩ = some (.int .i64 a4_4) := (blk_cell BK419.out 4).trans rfl
           have hfz74_0 := blk_frozen BK419.out 0
           have hfz74_1 := blk_frozen BK419.out 1
           have hfz74_2 := blk_frozen BK419.out 2
           have hfz74_3 := blk_frozen BK419.out 3
           have hfz74_4 := blk_frozen BK419.out 4
           go_wp2
           go_meet
           case rel => exact ⟨_, (0), (0), (0), (0), H', ⟨by have := HJ6.out; have := HK2.out; have := HJ46.out; first | omega | exact Nat.le_refl _⟩, ⟨by (with_reducible repeat (first | refine blk_drewN ?_ _ | refine blk_drew ?_ | refine blk_alloc ?_ _)); refine blk_far ?_ NB411_419.out _; (with_reducible repeat (first | refine blk_drewN ?_ _ | refine blk_drew ?_ | refine blk_alloc ?_ _)); refine blk_far ?_ NB411_419.out _; (with_reducible repeat (first | refine blk_drewN ?_ _ | refine blk_drew ?_ | refine blk_alloc ?_ _)); refine blk_far ?_ NB411_419.out _; (with_reducible repeat (first | refine blk_drewN ?_ _ | refine blk_drew ?_ | refine blk_alloc ?_ _)); refine blk_far ?_ NB411_419.out _; (with_reducible repeat (first | refine blk_drewN ?_ _ | refine blk_drew ?_ | refine blk_alloc ?_ _)); exact BK411.out⟩, ⟨by (with_reducible repeat (first | refine blk_drewN ?_ _ | refine blk_drew ?_ | refine blk_alloc ?_ _)); refine blk_far ?_ NB412_419.out _; (with_reducible repeat (first | refine blk_drewN ?_ _ | refine blk_drew ?_ | refine blk_alloc ?_ _)); refine blk_far ?_ NB412_419.out _; (with_reducible repeat (first | refine blk_drewN ?_ _ | refine blk_drew ?_ | refine blk_alloc ?_ _)); refine blk_far ?_ NB412_419.out _; (with_reducible repeat (first | refine blk_drewN ?_ _ | refine blk_drew ?_ | refine blk_alloc ?_ _)); refine blk_far ?_ NB412_419.out _; (with_reducible repeat (first | refine blk_drewN ?_ _ | refine blk_drew ?_ | refine blk_alloc ?_ _)); exact BK412.out⟩, ⟨by (with_reducible repeat (first | refine blk_drewN ?_ _ | refine blk_drew ?_ | refine blk_alloc ?_ _)); refine blk_far ?_ NB413_419.out _; (with_reducible repeat (first | refine blk_drewN ?_ _ | refine blk_drew ?_ | refine blk_alloc ?_ _)); refine blk_far ?_ NB413_419.out _; (with_reducible repeat (first | refine blk_drewN ?_ _ | refine blk_drew ?_ | refine blk_alloc ?_ _)); refine blk_far ?_ NB413_419.out _; (with_reducible repeat (first | refine blk_drewN ?_ _ | refine blk_drew ?_ | refine blk_alloc ?_ _)); refine blk_far ?_ NB413_419.out _; (with_reducible repeat (first | refine blk_drewN ?_ _ | refine blk_drew ?_ | refine blk_alloc ?_ _)); exact BK413.out⟩, ⟨by (with_reducible repeat (first | refine blk_drewN ?_ _ | refine blk_drew ?_ | refine blk_alloc ?_ _)); refine blk_far ?_ NB418_419.out _; (with_reducible repeat (first | refine blk_drewN ?_ _ | refine blk_drew ?_ | refine blk_alloc ?_ _)); refine blk_far ?_ NB418_419.out _; (with_reducible repeat (first | refine blk_drewN ?_ _ | refine blk_drew ?_ | refine blk_alloc ?_ _)); refine blk_far ?_ NB418_419.out _; (with_reducible repeat (first | refine blk_drewN ?_ _ | refine blk_drew ?_ | refine blk_alloc ?_ _)); refine blk_far ?_ NB418_419.out _; (with_reducible repeat (first | refine blk_drewN ?_ _ | refine blk_drew ?_ | refine blk_alloc ?_ _)); exact BK418.out⟩, ⟨by (with_reducible repeat (first | refine blk_drewN ?_ _ | refine blk_drew ?_ | refine blk_alloc ?_ _)); refine blk_put (cs := #[.int .u32 0, .int .u8 0, .int .i64 0, .int .i64 a4_3, .int .i64 a4_4]) ?_ 3 _ rfl; (with_reducible repeat (first | refine blk_drewN ?_ _ | refine blk_drew ?_ | refine blk_alloc ?_ _)); refine blk_put (cs := #[.int .u32 0, .int .u8 0, .int .i64 a4_2, .int .i64 a4_3, .int .i64 a4_4]) ?_ 2 _ rfl; (with_reducible repeat (first | refine blk_drewN ?_ _ | refine blk_drew ?_ | refine blk_alloc ?_ _)); refine blk_put (cs := #[.int .u32 0, .int .u8 a4_1, .int .i64 a4_2, .int .i64 a4_3, .int .i64 a4_4]) ?_ 1 _ rfl; (with_reducible repeat (first | refine blk_drewN ?_ _ | refine blk_drew ?_ | refine blk_alloc ?_ _)); refine blk_put (cs := #[.int .u32 a4_0, .int .u8 a4_1, .int .i64 a4_2, .int .i64 a4_3, .int .i64 a4_4]) ?_ 0 _ rfl; (with_reducible repeat (first | refine blk_drewN ?_ _ | refine blk_drew ?_ | refine blk_alloc ?_ _)); exact BK419.out⟩, ⟨by repeat (first | (with_reducible first | exact HB.out | apply below_alloc | apply pw_below_drewN | apply below_drew1 | refine below_set ?_ GE411.out | refine below_set ?_ GE412.out | refine below_set ?_ GE413.out | refine below_set ?_ GE418.out | refine below_set ?_ GE419.out) | exact HB.out)⟩⟩
          ·
           rw [if_neg c69] at H
           have c69b0 : ((Int.tmod (wrap64 (Int.tdiv x13_2 2)) 2) == 1) = false := beq_eq_false_iff_ne.mpr c69
           have c69b1 : ((Int.tmod (wrap64 (Int.tdiv x13_2 2)) 2) != 1) = true := bne_iff_ne.mpr c69
           (first | rw [c69b0] | (simp only [i64_w, i32_w]; rw [c69b0]) | skip)
           have H' := Aside0.mk H
           clear H
           go_wp2
           go_meet
           case rel => exact ⟨_, (a4_0), (a4_1), (a4_2), (a4_3), H', ⟨by have := HJ6.out; have := HK2.out; have := HJ46.out; first | omega | exact Nat.le_refl _⟩, ⟨by (with_reducible repeat (first | refine blk_drewN ?_ _ | refine blk_drew ?_ | refine blk_alloc ?_ _)); exact BK411.out⟩, ⟨by (with_reducible repeat (first | refine blk_drewN ?_ _ | refine blk_drew ?_ | refine blk_alloc ?_ _)); exact BK412.out⟩, ⟨by (with_reducible repeat (first | refine blk_drewN ?_ _ | refine blk_drew ?_ | refine blk_alloc ?_ _)); exact BK413.out⟩, ⟨by (with_reducible repeat (first | refine blk_drewN ?_ _ | refine blk_drew ?_ | refine blk_alloc ?_ _)); exact BK418.out⟩, ⟨by (with_reducible repeat (first | refine blk_drewN ?_ _ | refine blk_drew ?_ | refine blk_alloc ?_ _)); exact BK419.out⟩, ⟨by repeat (first | (with_reducible first | exact HB.out | apply below_alloc | apply pw_below_drewN | apply below_drew1 | refine below_set ?_ GE411.out | refine below_set ?_ GE412.out | refine below_set ?_ GE413.out | refine below_set ?_ GE418.out | refine below_set ?_ GE419.out) | exact HB.out)⟩⟩
         case rest =>
          clear HC68
          try clear p6
          try clear c7
          try clear p64
          try clear c69
          try clear c69b0
          try clear c69b1
          try clear c70
          try clear c71
          try clear c72
          try clear c73
          try clear hcz74_0
          try clear hcz74_1
          try clear hcz74_2
          try clear hcz74_3
          try clear hcz74_4
          try clear hfz74_0
          try clear hfz74_1
          try clear hfz74_2
          try clear hfz74_3
          try clear hfz74_4
          obtain ⟨kq, x420000_67, x420001_67, x420002_67, x420003_67, HA, HJ67, BK411, BK412, BK413, BK418, BK419, HB⟩ := hcut
          cases kq with
          | zero => exact absurd HA.out (by simp [horariumlaw15_PairNever.j3])
          | succ kj67 =>
           have H := HA.out
           clear HA
           simp only [horariumlaw15_PairNever.j3] at H
           have HC75 := Aside0.mk H
           clear H
           go_upto_region 11 with (fail)
           go_cut [62] (fun v62 wc => ∃ (kq : Nat) (x62_74 : Bool), v62 = .bool x62_74 ∧ Aside0 (horariumlaw15_PairNever.j4 kq a1 a2 a5 x13_2 x62_74 a0_0 a0_1 a0_2 a3_0 a3_1 a3_2 a3_3 a3_4 a4_0 a4_1 a4_2 a4_3 a4_4 x419000_46 x419001_46 x419002_46 x419003_46 a3_4 x420000_67 x420001_67 x420002_67 x420003_67 a4_4 = some r) ∧ Aside0 (kq ≤ kj67) ∧ Aside0 (wc.heap[gb411]? = some (.cells #[.int .i64 a0_0, .int .i64 a0_1, .int .i64 a0_2] 23 (0, 0))) ∧ Aside0 (wc.heap[gb412]? = some (.cells #[.int .u32 a3_0, .int .u8 a3_1, .int .i64 a3_2, .int .i64 a3_3, .int .i64 a3_4] 28 (0, 0))) ∧ Aside0 (wc.heap[gb413]? = some (.cells #[.int .u32 a4_0, .int .u8 a4_1, .int .i64 a4_2, .int .i64 a4_3, .int .i64 a4_4] 28 (0, 0))) ∧ Aside0 (wc.heap[gb418]? = some (.cells #[.int .u32 x419000_46, .int .u8 x419001_46, .int .i64 x419002_46, .int .i64 x419003_46, .int .i64 a3_4] 28 (0, 0))) ∧ Aside0 (wc.heap[gb419]? = some (.cells #[.int .u32 x420000_67, .int .u8 x420001_67, .int .i64 x420002_67, .int .i64 x420003_67, .int .i64 a4_4] 28 (0, 0))) ∧ Aside0 (Below w.heap.size w wc))
           case first =>
            have H := HC75.out
            clear HC75
            by_cases c76 : (Int.tmod (wrap64 (Int.tdiv x13_2 4)) 2) = 1
            ·
             rw [if_pos c76] at H
             have c76b0 : ((Int.tmod (wrap64 (Int.tdiv x13_2 4)) 2) == 1) = true := beq_iff_eq.mpr c76
             have c76b1 : ((Int.tmod (wrap64 (Int.tdiv x13_2 4)) 2) != 1) = false := bne_eq_false_iff_eq.mpr c76
             clear c76
             (first | rw [c76b0] | (simp only [i64_w, i32_w]; rw [c76b0]) | skip)
             have H' := Aside0.mk H
             clear H
             have hnb77 := NB412_411.out
             have hnc77 := NB411_412.out
             have hnb78 := NB412_413.out
             have hnc78 := NB413_412.out
             have hnb79 := NB412_418.out
             have hnc79 := NB418_412.out
             have hnb80 := NB412_419.out
             have hnc80 := NB419_412.out
             have hcz81_0 : wc.cell? ⟨gb412, 0, none⟩ = some (.int .u32 a3_0) := (blk_cell BK412.out 0).trans rfl
             have hcz81_1 : wc.cell? ⟨gb412, 1, none⟩ = some (.int .u8 a3_1) := (blk_cell BK412.out 1).trans rfl
             have hcz81_2 : wc.cell? ⟨gb412, 2, none⟩ = some (.int .i64 a3_2) := (blk_cell BK412.out 2).trans rfl
             have hcz81_3 : wc.cell? ⟨gb412, 3, none⟩ = some (.int .i64 a3_3) := (blk_cell BK412.out 3).trans rfl
             have hcz81_4 : wc.cell? ⟨gb412, 4, none⟩ = some (.int .i64 a3_4) := (blk_cell BK412.out 4).trans rfl
             have hfz81_0 := blk_frozen BK412.out 0
             have hfz81_1 := blk_frozen BK412.out 1
             have hfz81_2 := blk_frozen BK412.out 2
             have hfz81_3 := blk_frozen BK412.out 3
             have hfz81_4 := blk_frozen BK412.out 4
             go_wp2
             go_meet
             case rel => exact ⟨_, (decide (a3_4 ≥ 0)), (by first | rfl | (simp; done) | (simp [*]; done)), H', ⟨by have := HJ6.out; have := HK2.out; have := HJ46.out; have := HJ67.out; first | omega | exact Nat.le_refl _⟩, ⟨by (with_reducible repeat (first | refine blk_drewN ?_ _ | refine blk_drew ?_ | refine blk_alloc ?_ _)); exact BK411.out⟩, ⟨by (with_reducible repeat (first | refine blk_drewN ?_ _ | refine blk_drew ?_ | refine blk_alloc ?_ _)); exact BK412.out⟩, ⟨by (with_reducible repeat (first | refine blk_drewN ?_ _ | refine blk_drew ?_ | refine blk_alloc ?_ _)); exact BK413.out⟩, ⟨by (with_reducible repeat (first | refine blk_drewN ?_ _ | refine blk_drew ?_ | refine blk_alloc ?_ _)); exact BK418.out⟩, ⟨by (with_reducible repeat (first | refine blk_drewN ?_ _ | refine blk_drew ?_ | refine blk_alloc ?_ _)); exact BK419.out⟩, ⟨by repeat (first | (with_reducible first | exact HB.out | apply below_alloc | apply pw_below_drewN | apply below_drew1 | refine below_set ?_ GE411.out | refine below_set ?_ GE412.out | refine below_set ?_ GE413.out | refine below_set ?_ GE418.out | refine below_set ?_ GE419.out) | exact HB.out)⟩⟩
            ·
             rw [if_neg c76] at H
             have c76b0 : ((Int.tmod (wrap64 (Int.tdiv x13_2 4)) 2) == 1) = false := beq_eq_false_iff_ne.mpr c76
             have c76b1 : ((Int.tmod (wrap64 (Int.tdiv x13_2 4)) 2) != 1) = true := bne_iff_ne.mpr c76
             (first | rw [c76b0] | (simp only [i64_w, i32_w]; rw [c76b0]) | skip)
             have H' := Aside0.mk H
             clear H
             go_wp2
             go_meet
             case rel => exact ⟨_, (false), (by first | rfl | (simp; done) | (simp [*]; done)), H', ⟨by have := HJ6.out; have := HK2.out; have := HJ46.out; have := HJ67.out; first | omega | exact Nat.le_refl _⟩, ⟨by (with_reducible repeat (first | refine blk_drewN ?_ _ | refine blk_drew ?_ | refine blk_alloc ?_ _)); exact BK411.out⟩, ⟨by (with_reducible repeat (first | refine blk_drewN ?_ _ | refine blk_drew ?_ | refine blk_alloc ?_ _)); exact BK412.out⟩, ⟨by (with_reducible repeat (first | refine blk_drewN ?_ _ | refine blk_drew ?_ | refine blk_alloc ?_ _)); exact BK413.out⟩, ⟨by (with_reducible repeat (first | refine blk_drewN ?_ _ | refine blk_drew ?_ | refine blk_alloc ?_ _)); exact BK418.out⟩, ⟨by (with_reducible repeat (first | refine blk_drewN ?_ _ | refine blk_drew ?_ | refine blk_alloc ?_ _)); exact BK419.out⟩, ⟨by repeat (first | (with_reducible first | exact HB.out | apply below_alloc | apply pw_below_drewN | apply below_drew1 | refine below_set ?_ GE411.out | refine below_set ?_ GE412.out | refine below_set ?_ GE413.out | refine below_set ?_ GE418.out | refine below_set ?_ GE419.out) | exact HB.out)⟩⟩
           case rest =>
            clear HC75
            try clear c8
            try clear c76
            try clear c76b0
            try clear c76b1
            try clear c77
            try clear c78
            try clear c79
            try clear c80
            try clear hcz81_0
            try clear hcz81_1
            try clear hcz81_2
            try clear hcz81_3
            try clear hcz81_4
            try clear hfz81_0
            try clear hfz81_1
            try clear hfz81_2
            try clear hfz81_3
            try clear hfz81_4
            obtain ⟨kq, x62_74, rfl, HA, HJ74, BK411, BK412, BK413, BK418, BK419, HB⟩ := hcut
            cases kq with
            | zero => exact absurd HA.out (by simp [horariumlaw15_PairNever.j4])
            | succ kj74 =>
             have H := HA.out
             clear HA
             simp only [horariumlaw15_PairNever.j4] at H
             have HC82 := Aside0.mk H
             clear H
             go_upto_if 62 with (fail)
             go_cut [] (fun wc => ∃ (kq : Nat) (x419004_81 : Int), Aside0 (horariumlaw15_PairNever.j5 kq a1 a2 a5 x13_2 a0_0 a0_1 a0_2 a3_0 a3_1 a3_2 a3_3 a3_4 a4_0 a4_1 a4_2 a4_3 a4_4 x419000_46 x419001_46 x419002_46 x419003_46 x419004_81 x420000_67 x420001_67 x420002_67 x420003_67 a4_4 = some r) ∧ Aside0 (kq ≤ kj74) ∧ Aside0 (wc.heap[gb411]? = some (.cells #[.int .i64 a0_0, .int .i64 a0_1, .int .i64 a0_2] 23 (0, 0))) ∧ Aside0 (wc.heap[gb412]? = some (.cells #[.int .u32 a3_0, .int .u8 a3_1, .int .i64 a3_2, .int .i64 a3_3, .int .i64 a3_4] 28 (0, 0))) ∧ Aside0 (wc.heap[gb413]? = some (.cells #[.int .u32 a4_0, .int .u8 a4_1, .int .i64 a4_2, .int .i64 a4_3, .int .i64 a4_4] 28 (0, 0))) ∧ Aside0 (wc.heap[gb418]? = some (.cells #[.int .u32 x419000_46, .int .u8 x419001_46, .int .i64 x419002_46, .int .i64 x419003_46, .int .i64 x419004_81] 28 (0, 0))) ∧ Aside0 (wc.heap[gb419]? = some (.cells #[.int .u32 x420000_67, .int .u8 x420001_67, .int .i64 x420002_67, .int .i64 x420003_67, .int .i64 a4_4] 28 (0, 0))) ∧ Aside0 (Below w.heap.size w wc))
             case first =>
              have H := HC82.out
              clear HC82
              by_cases c83 : x62_74 = true
              ·
               subst c83
               have H1 : (horariumlaw15_PairNever.j5 kj74 a1 a2 a5 x13_2 a0_0 a0_1 a0_2 a3_0 a3_1 a3_2 a3_3 a3_4 a4_0 a4_1 a4_2 a4_3 a4_4 x419000_46 x419001_46 x419002_46 x419003_46 (-2) x420000_67 x420001_67 x420002_67 x420003_67 a4_4) = some r := by rw [if_pos rfl] at H; exact H
               clear H
               have H := H1
               clear H1
               have H' := Aside0.mk H
               clear H
               have hnb84 := NB418_411.out
               have hnc84 := NB411_418.out
               have hnb85 := NB418_412.out
               have hnc85 := NB412_418.out
               have hnb86 := NB418_413.out
               have hnc86 := NB413_418.out
               have hnb87 := NB418_419.out
               have hnc87 := NB419_418.out
               have hcz88_0 : wc.cell? ⟨gb418, 0, none⟩ = some (.int .u32 x419000_46) := (blk_cell BK418.out 0).trans rfl
               have hcz88_1 : wc.cell? ⟨gb418, 1, none⟩ = some (.int .u8 x419001_46) := (blk_cell BK418.out 1).trans rfl
               have hcz88_2 : wc.cell? ⟨gb418, 2, none⟩ = some (.int .i64 x419002_46) := (blk_cell BK418.out 2).trans rfl
               have hcz88_3 : wc.cell? ⟨gb418, 3, none⟩ = some (.int .i64 x419003_46) := (blk_cell BK418.out 3).trans rfl
               have hcz88_4 : wc.cell? ⟨gb418, 4, none⟩ = some (.int .i64 a3_4) := (blk_cell BK418.out 4).trans rfl
               have hfz88_0 := blk_frozen BK418.out 0
               have hfz88_1 := blk_frozen BK418.out 1
               have hfz88_2 := blk_frozen BK418.out 2
               have hfz88_3 := blk_frozen BK418.out 3
               have hfz88_4 := blk_frozen BK418.out 4
               go_wp2
               go_meet
               case rel => exact ⟨_, ((-2)), H', ⟨by have := HJ6.out; have := HK2.out; have := HJ46.out; have := HJ67.out; have := HJ74.out; first | omega | exact Nat.le_refl _⟩, ⟨by (with_reducible repeat (first | refine blk_drewN ?_ _ | refine blk_drew ?_ | refine blk_alloc ?_ _)); refine blk_far ?_ NB411_418.out _; (with_reducible repeat (first | refine blk_drewN ?_ _ | refine blk_drew ?_ | refine blk_alloc ?_ _)); exact BK411.out⟩, ⟨by (with_reducible repeat (first | refine blk_drewN ?_ _ | refine blk_drew ?_ | refine blk_alloc ?_ _)); refine blk_far ?_ NB412_418.out _; (with_reducible repeat (first | refine blk_drewN ?_ _ | refine blk_drew ?_ | refine blk_alloc ?_ _)); exact BK412.out⟩, ⟨by (with_reducible repeat (first | refine blk_drewN ?_ _ | refine blk_drew ?_ | refine blk_alloc ?_ _)); refine blk_far ?_ NB413_418.out _; (with_reducible repeat (first | refine blk_drewN ?_ _ | refine blk_drew ?_ | refine blk_alloc ?_ _)); exact BK413.out⟩, ⟨by (with_reducible repeat (first | refine blk_drewN ?_ _ | refine blk_drew ?_ | refine blk_alloc ?_ _)); refine blk_put (cs := #[.int .u32 x419000_46, .int .u8 x419001_46, .int .i64 x419002_46, .int .i64 x419003_46, .int .i64 a3_4]) ?_ 4 _ rfl; (with_reducible repeat (first | refine blk_drewN ?_ _ | refine blk_drew ?_ | refine blk_alloc ?_ _)); exact BK418.out⟩, ⟨by (with_reducible repeat (first | refine blk_drewN ?_ _ | refine blk_drew ?_ | refine blk_alloc ?_ _)); refine blk_far ?_ NB419_418.out _; (with_reducible repeat (first | refine blk_drewN ?_ _ | refine blk_drew ?_ | refine blk_alloc ?_ _)); exact BK419.out⟩, ⟨by repeat (first | (with_reducible first | exact HB.out | apply below_alloc | apply pw_below_drewN | apply below_drew1 | refine below_set ?_ GE411.out | refine below_set ?_ GE412.out | refine below_set ?_ GE413.out | refine below_set ?_ GE418.out | refine below_set ?_ GE419.out) | exact HB.out)⟩⟩
              ·
               replace c83 := Bool.eq_false_iff.mpr c83
               subst c83
               have H1 : (horariumlaw15_PairNever.j5 kj74 a1 a2 a5 x13_2 a0_0 a0_1 a0_2 a3_0 a3_1 a3_2 a3_3 a3_4 a4_0 a4_1 a4_2 a4_3 a4_4 x419000_46 x419001_46 x419002_46 x419003_46 a3_4 x420000_67 x420001_67 x420002_67 x420003_67 a4_4) = some r := by rw [if_neg (show ¬ (false = true) by decide)] at H; exact H
               clear H
               have H := H1
               clear H1
               have H' := Aside0.mk H
               clear H
               go_wp2
               go_meet
               case rel => exact ⟨_, (a3_4), H', ⟨by have := HJ6.out; have := HK2.out; have := HJ46.out; have := HJ67.out; have := HJ74.out; first | omega | exact Nat.le_refl _⟩, ⟨by (with_reducible repeat (first | refine blk_drewN ?_ _ | refine blk_drew ?_ | refine blk_alloc ?_ _)); exact BK411.out⟩, ⟨by (with_reducible repeat (first | refine blk_drewN ?_ _ | refine blk_drew ?_ | refine blk_alloc ?_ _)); exact BK412.out⟩, ⟨by (with_reducible repeat (first | refine blk_drewN ?_ _ | refine blk_drew ?_ | refine blk_alloc ?_ _)); exact BK413.out⟩, ⟨by (with_reducible repeat (first | refine blk_drewN ?_ _ | refine blk_drew ?_ | refine blk_alloc ?_ _)); exact BK418.out⟩, ⟨by (with_reducible repeat (first | refine blk_drewN ?_ _ | refine blk_drew ?_ | refine blk_alloc ?_ _)); exact BK419.out⟩, ⟨by repeat (first | (with_reducible first | exact HB.out | apply below_alloc | apply pw_below_drewN | apply below_drew1 | refine below_set ?_ GE411.out | refine below_set ?_ GE412.out | refine below_set ?_ GE413.out | refine below_set ?_ GE418.out | refine below_set ?_ GE419.out) | exact HB.out)⟩⟩
             case rest =>
              clear HC82
              try clear c83
              try clear c84
              try clear c85
              try clear c86
              try clear c87
              try clear hcz88_0
              try clear hcz88_1
              try clear hcz88_2
              try clear hcz88_3
              try clear hcz88_4
              try clear hfz88_0
              try clear hfz88_1
              try clear hfz88_2
              try clear hfz88_3
              try clear hfz88_4
              obtain ⟨kq, x419004_81, HA, HJ81, BK411, BK412, BK413, BK418, BK419, HB⟩ := hcut
              cases kq with
              | zero => exact absurd HA.out (by simp [horariumlaw15_PairNever.j5])
              | succ kj81 =>
               have H := HA.out
               clear HA
               simp only [horariumlaw15_PairNever.j5] at H
               have HC89 := Aside0.mk H
               clear H
               go_upto_region 13 with (fail)
               go_cut [72] (fun v72 wc => ∃ (kq : Nat) (x72_88 : Bool), v72 = .bool x72_88 ∧ Aside0 (horariumlaw15_PairNever.j6 kq a1 a2 a5 x13_2 x72_88 a0_0 a0_1 a0_2 a3_0 a3_1 a3_2 a3_3 a3_4 a4_0 a4_1 a4_2 a4_3 a4_4 x419000_46 x419001_46 x419002_46 x419003_46 x419004_81 x420000_67 x420001_67 x420002_67 x420003_67 a4_4 = some r) ∧ Aside0 (kq ≤ kj81) ∧ Aside0 (wc.heap[gb411]? = some (.cells #[.int .i64 a0_0, .int .i64 a0_1, .int .i64 a0_2] 23 (0, 0))) ∧ Aside0 (wc.heap[gb412]? = some (.cells #[.int .u32 a3_0, .int .u8 a3_1, .int .i64 a3_2, .int .i64 a3_3, .int .i64 a3_4] 28 (0, 0))) ∧ Aside0 (wc.heap[gb413]? = some (.cells #[.int .u32 a4_0, .int .u8 a4_1, .int .i64 a4_2, .int .i64 a4_3, .int .i64 a4_4] 28 (0, 0))) ∧ Aside0 (wc.heap[gb418]? = some (.cells #[.int .u32 x419000_46, .int .u8 x419001_46, .int .i64 x419002_46, .int .i64 x419003_46, .int .i64 x419004_81] 28 (0, 0))) ∧ Aside0 (wc.heap[gb419]? = some (.cells #[.int .u32 x420000_67, .int .u8 x420001_67, .int .i64 x420002_67, .int .i64 x420003_67, .int .i64 a4_4] 28 (0, 0))) ∧ Aside0 (Below w.heap.size w wc))
               case first =>
                have H := HC89.out
                clear HC89
                by_cases c90 : (Int.tmod (wrap64 (Int.tdiv x13_2 8)) 2) = 1
                ·
                 rw [if_pos c90] at H
                 have c90b0 : ((Int.tmod (wrap64 (Int.tdiv x13_2 8)) 2) == 1) = true := beq_iff_eq.mpr c90
                 have c90b1 : ((Int.tmod (wrap64 (Int.tdiv x13_2 8)) 2) != 1) = false := bne_eq_false_iff_eq.mpr c90
                 clear c90
                 (first | rw [c90b0] | (simp only [i64_w, i32_w]; rw [c90b0]) | skip)
                 have H' := Aside0.mk H
                 clear H
                 have hnb91 := NB413_411.out
                 have hnc91 := NB411_413.out
                 have hnb92 := NB413_412.out
                 have hnc92 := NB412_413.out
                 have hnb93 := NB413_418.out
                 have hnc93 := NB418_413.out
                 have hnb94 := NB413_419.out
                 have hnc94 := NB419_413.out
                 have hcz95_0 : wc.cell? ⟨gb413, 0, none⟩ = some (.int .u32 a4_0) := (blk_cell BK413.out 0).trans rfl
                 have hcz95_1 : wc.cell? ⟨gb413, 1, none⟩ = some (.int .u8 a4_1) := (blk_cell BK413.out 1).trans rfl
                 have hcz95_2 : wc.cell? ⟨gb413, 2, none⟩ = some (.int .i64 a4_2) := (blk_cell BK413.out 2).trans rfl
                 have hcz95_3 : wc.cell? ⟨gb413, 3, none⟩ = some (.int .i64 a4_3) := (blk_cell BK413.out 3).trans rfl
                 have hcz95_4 : wc.cell? ⟨gb413, 4, none⟩ = some (.int .i64 a4_4) := (blk_cell BK413.out 4).trans rfl
                 have hfz95_0 := blk_frozen BK413.out 0
                 have hfz95_1 := blk_frozen BK413.out 1
                 have hfz95_2 := blk_frozen BK413.out 2
                 have hfz95_3 := blk_frozen BK413.out 3
                 have hfz95_4 := blk_frozen BK413.out 4
                 go_wp2
                 go_meet
                 case rel => exact ⟨_, (decide (a4_4 ≥ 0)), (by first | rfl | (simp; done) | (simp [*]; done)), H', ⟨by have := HJ6.out; have := HK2.out; have := HJ46.out; have := HJ67.out; have := HJ74.out; have := HJ81.out; first | omega | exact Nat.le_refl _⟩, ⟨by (with_reducible repeat (first | refine blk_drewN ?_ _ | refine blk_drew ?_ | refine blk_alloc ?_ _)); exact BK411.out⟩, ⟨by (with_reducible repeat (first | refine blk_drewN ?_ _ | refine blk_drew ?_ | refine blk_alloc ?_ _)); exact BK412.out⟩, ⟨by (with_reducible repeat (first | refine blk_drewN ?_ _ | refine blk_drew ?_ | refine blk_alloc ?_ _)); exact BK413.out⟩, ⟨by (with_reducible repeat (first | refine blk_drewN ?_ _ | refine blk_drew ?_ | refine blk_alloc ?_ _)); exact BK418.out⟩, ⟨by (with_reducible repeat (first | refine blk_drewN ?_ _ | refine blk_drew ?_ | refine blk_alloc ?_ _)); exact BK419.out⟩, ⟨by repeat (first | (with_reducible first | exact HB.out | apply below_alloc | apply pw_below_drewN | apply below_drew1 | refine below_set ?_ GE411.out | refine below_set ?_ GE412.out | refine below_set ?_ GE413.out | refine below_set ?_ GE418.out | refine below_set ?_ GE419.out) | exact HB.out)⟩⟩
                ·
                 rw [if_neg c90] at H
                 have c90b0 : ((Int.tmod (wrap64 (Int.tdiv x13_2 8)) 2) == 1) = false := beq_eq_false_iff_ne.mpr c90
                 have c90b1 : ((Int.tmod (wrap64 (Int.tdiv x13_2 8)) 2) != 1) = true := bne_iff_ne.mpr c90
                 (first | rw [c90b0] | (simp only [i64_w, i32_w]; rw [c90b0]) | skip)
                 have H' := Aside0.mk H
                 clear H
                 go_wp2
                 go_meet
                 case rel => exact ⟨_, (false), (by first | rfl | (simp; done) | (simp [*]; done)), H', ⟨by have := HJ6.out; have := HK2.out; have := HJ46.out; have := HJ67.out; have := HJ74.out; have := HJ81.out; first | omega | exact Nat.le_refl _⟩, ⟨by (with_reducible repeat (first | refine blk_drewN ?_ _ | refine blk_drew ?_ | refine blk_alloc ?_ _)); exact BK411.out⟩, ⟨by (with_reducible repeat (first | refine blk_drewN ?_ _ | refine blk_drew ?_ | refine blk_alloc ?_ _)); exact BK412.out⟩, ⟨by (with_reducible repeat (first | refine blk_drewN ?_ _ | refine blk_drew ?_ | refine blk_alloc ?_ _)); exact BK413.out⟩, ⟨by (with_reducible repeat (first | refine blk_drewN ?_ _ | refine blk_drew ?_ | refine blk_alloc ?_ _)); exact BK418.out⟩, ⟨by (with_reducible repeat (first | refine blk_drewN ?_ _ | refine blk_drew ?_ | refine blk_alloc ?_ _)); exact BK419.out⟩, ⟨by repeat (first | (with_reducible first | exact HB.out | apply below_alloc | apply pw_below_drewN | apply below_drew1 | refine below_set ?_ GE411.out | refine below_set ?_ GE412.out | refine below_set ?_ GE413.out | refine below_set ?_ GE418.out | refine below_set ?_ GE419.out) | exact HB.out)⟩⟩
               case rest =>
                clear HC89
                try clear c9
                try clear c90
                try clear c90b0
                try clear c90b1
                try clear c91
                try clear c92
                try clear c93
                try clear c94
                try clear hcz95_0
                try clear hcz95_1
                try clear hcz95_2
                try clear hcz95_3
                try clear hcz95_4
                try clear hfz95_0
                try clear hfz95_1
                try clear hfz95_2
                try clear hfz95_3
                try clear hfz95_4
                obtain ⟨kq, x72_88, rfl, HA, HJ88, BK411, BK412, BK413, BK418, BK419, HB⟩ := hcut
                cases kq with
                | zero => exact absurd HA.out (by simp [horariumlaw15_PairNever.j6])
                | succ kj88 =>
                 have H := HA.out
                 clear HA
                 simp only [horariumlaw15_PairNever.j6] at H
                 have HC96 := Aside0.mk H
                 clear H
                 go_upto_if 72 with (fail)
                 go_cut [] (fun wc => ∃ (kq : Nat) (x420004_95 : Int), Aside0 (horariumlaw15_PairNever.j7 kq a1 a2 a5 x13_2 a0_0 a0_1 a0_2 a3_0 a3_1 a3_2 a3_3 a3_4 a4_0 a4_1 a4_2 a4_3 a4_4 x419000_46 x419001_46 x419002_46 x419003_46 x419004_81 x420000_67 x420001_67 x420002_67 x420003_67 x420004_95 = some r) ∧ Aside0 (kq ≤ kj88) ∧ Aside0 (wc.heap[gb411]? = some (.cells #[.int .i64 a0_0, .int .i64 a0_1, .int .i64 a0_2] 23 (0, 0))) ∧ Aside0 (wc.heap[gb412]? = some (.cells #[.int .u32 a3_0, .int .u8 a3_1, .int .i64 a3_2, .int .i64 a3_3, .int .i64 a3_4] 28 (0, 0))) ∧ Aside0 (wc.heap[gb413]? = some (.cells #[.int .u32 a4_0, .int .u8 a4_1, .int .i64 a4_2, .int .i64 a4_3, .int .i64 a4_4] 28 (0, 0))) ∧ Aside0 (wc.heap[gb418]? = some (.cells #[.int .u32 x419000_46, .int .u8 x419001_46, .int .i64 x419002_46, .int .i64 x419003_46, .int .i64 x419004_81] 28 (0, 0))) ∧ Aside0 (wc.heap[gb419]? = some (.cells #[.int .u32 x420000_67, .int .u8 x420001_67, .int .i64 x420002_67, .int .i64 x420003_67, .int .i64 x420004_95] 28 (0, 0))) ∧ Aside0 (Below w.heap.size w wc))
                 case first =>
                  have H := HC96.out
                  clear HC96
                  by_cases c97 : x72_88 = true
                  ·
                   subst c97
                   have H1 : (horariumlaw15_PairNever.j7 kj88 a1 a2 a5 x13_2 a0_0 a0_1 a0_2 a3_0 a3_1 a3_2 a3_3 a3_4 a4_0 a4_1 a4_2 a4_3 a4_4 x419000_46 x419001_46 x419002_46 x419003_46 x419004_81 x420000_67 x420001_67 x420002_67 x420003_67 (-2)) = some r := by rw [if_pos rfl] at H; exact H
                   clear H
                   have H := H1
                   clear H1
                   have H' := Aside0.mk H
                   clear H
                   have hnb98 := NB419_411.out
                   have hnc98 := NB411_419.out
                   have hnb99 := NB419_412.out
                   have hnc99 := NB412_419.out
                   have hnb100 := NB419_413.out
                   have hnc100 := NB413_419.out
                   have hnb101 := NB419_418.out
                   have hnc101 := NB418_419.out
                   have hcz102_0 : wc.cell? ⟨gb419, 0, none⟩ = some (.int .u32 x420000_67) := (blk_cell BK419.out 0).trans rfl
                   have hcz102_1 : wc.cell? ⟨gb419, 1, none⟩ = some (.int .u8 x420001_67) := (blk_cell BK419.out 1).trans rfl
                   have hcz102_2 : wc.cell? ⟨gb419, 2, none⟩ = some (.int .i64 x420002_67) := (blk_cell BK419.out 2).trans rfl
                   have hcz102_3 : wc.cell? ⟨gb419, 3, none⟩ = some (.int .i64 x420003_67) := (blk_cell BK419.out 3).trans rfl
                   have hcz102_4 : wc.cell? ⟨gb419, 4, none⟩ = some (.int .i64 a4_4) := (blk_cell BK419.out 4).trans rfl
                   have hfz102_0 := blk_frozen BK419.out 0
                   have hfz102_1 := blk_frozen BK419.out 1
                   have hfz102_2 := blk_frozen BK419.out 2
                   have hfz102_3 := blk_frozen BK419.out 3
                   have hfz102_4 := blk_frozen BK419.out 4
                   go_wp2
                   go_meet
                   case rel => exact ⟨_, ((-2)), H', ⟨by have := HJ6.out; have := HK2.out; have := HJ46.out; have := HJ67.out; have := HJ74.out; have := HJ81.out; have := HJ88.out; first | omega | exact Nat.le_refl _⟩, ⟨by (with_reducible repeat (first | refine blk_drewN ?_ _ | refine blk_drew ?_ | refine blk_alloc ?_ _)); refine blk_far ?_ NB411_419.out _; (with_reducible repeat (first | refine blk_drewN ?_ _ | refine blk_drew ?_ | refine blk_alloc ?_ _)); exact BK411.out⟩, ⟨by (with_reducible repeat (first | refine blk_drewN ?_ _ | refine blk_drew ?_ | refine blk_alloc ?_ _)); refine blk_far ?_ NB412_419.out _; (with_reducible repeat (first | refine blk_drewN ?_ _ | refine blk_drew ?_ | refine blk_alloc ?_ _)); exact BK412.out⟩, ⟨by (with_reducible repeat (first | refine blk_drewN ?_ _ | refine blk_drew ?_ | refine blk_alloc ?_ _)); refine blk_far ?_ NB413_419.out _; (with_reducible repeat (first | refine blk_drewN ?_ _ | refine blk_drew ?_ | refine blk_alloc ?_ _)); exact BK413.out⟩, ⟨by (with_reducible repeat (first | refine blk_drewN ?_ _ | refine blk_drew ?_ | refine blk_alloc ?_ _)); refine blk_far ?_ NB418_419.out _; (with_reducible repeat (first | refine blk_drewN ?_ _ | refine blk_drew ?_ | refine blk_alloc ?_ _)); exact BK418.out⟩, ⟨by (with_reducible repeat (first | refine blk_drewN ?_ _ | refine blk_drew ?_ | refine blk_alloc ?_ _)); refine blk_put (cs := #[.int .u32 x420000_67, .int .u8 x420001_67, .int .i64 x420002_67, .int .i64 x420003_67, .int .i64 a4_4]) ?_ 4 _ rfl; (with_reducible repeat (first | refine blk_drewN ?_ _ | refine blk_drew ?_ | refine blk_alloc ?_ _)); exact BK419.out⟩, ⟨by repeat (first | (with_reducible first | exact HB.out | apply below_alloc | apply pw_below_drewN | apply below_drew1 | refine below_set ?_ GE411.out | refine below_set ?_ GE412.out | refine below_set ?_ GE413.out | refine below_set ?_ GE418.out | refine below_set ?_ GE419.out) | exact HB.out)⟩⟩
                  ·
                   replace c97 := Bool.eq_false_iff.mpr c97
                   subst c97
                   have H1 : (horariumlaw15_PairNever.j7 kj88 a1 a2 a5 x13_2 a0_0 a0_1 a0_2 a3_0 a3_1 a3_2 a3_3 a3_4 a4_0 a4_1 a4_2 a4_3 a4_4 x419000_46 x419001_46 x419002_46 x419003_46 x419004_81 x420000_67 x420001_67 x420002_67 x420003_67 a4_4) = some r := by rw [if_neg (show ¬ (false = true) by decide)] at H; exact H
                   clear H
                   have H := H1
                   clear H1
                   have H' := Aside0.mk H
                   clear H
                   go_wp2
                   go_meet
                   case rel => exact ⟨_, (a4_4), H', ⟨by have := HJ6.out; have := HK2.out; have := HJ46.out; have := HJ67.out; have := HJ74.out; have := HJ81.out; have := HJ88.out; first | omega | exact Nat.le_refl _⟩, ⟨by (with_reducible repeat (first | refine blk_drewN ?_ _ | refine blk_drew ?_ | refine blk_alloc ?_ _)); exact BK411.out⟩, ⟨by (with_reducible repeat (first | refine blk_drewN ?_ _ | refine blk_drew ?_ | refine blk_alloc ?_ _)); exact BK412.out⟩, ⟨by (with_reducible repeat (first | refine blk_drewN ?_ _ | refine blk_drew ?_ | refine blk_alloc ?_ _)); exact BK413.out⟩, ⟨by (with_reducible repeat (first | refine blk_drewN ?_ _ | refine blk_drew ?_ | refine blk_alloc ?_ _)); exact BK418.out⟩, ⟨by (with_reducible repeat (first | refine blk_drewN ?_ _ | refine blk_drew ?_ | refine blk_alloc ?_ _)); exact BK419.out⟩, ⟨by repeat (first | (with_reducible first | exact HB.out | apply below_alloc | apply pw_below_drewN | apply below_drew1 | refine below_set ?_ GE411.out | refine below_set ?_ GE412.out | refine below_set ?_ GE413.out | refine below_set ?_ GE418.out | refine below_set ?_ GE419.out) | exact HB.out)⟩⟩
                 case rest =>
                  clear HC96
                  try clear c10
                  try clear c97
                  try clear c98
                  try clear c99
                  try clear c100
                  try clear c101
                  try clear hcz102_0
                  try clear hcz102_1
                  try clear hcz102_2
                  try clear hcz102_3
                  try clear hcz102_4
                  try clear hfz102_0
                  try clear hfz102_1
                  try clear hfz102_2
                  try clear hfz102_3
                  try clear hfz102_4
                  obtain ⟨kq, x420004_95, HA, HJ95, BK411, BK412, BK413, BK418, BK419, HB⟩ := hcut
                  cases kq with
                  | zero => exact absurd HA.out (by simp [horariumlaw15_PairNever.j7])
                  | succ kj95 =>
                   have H := HA.out
                   clear HA
                   simp only [horariumlaw15_PairNever.j7] at H
                   have HC103 := Aside0.mk H
                   clear H
                   go_upto_region 16 with (fail)
                   go_cut [82] (fun v82 wc => ∃ (kq : Nat) (x82_102 : Bool), v82 = .bool x82_102 ∧ Aside0 (horariumlaw15_PairNever.j8 kq a1 a2 a5 x13_2 a5 x82_102 a0_0 a0_1 a0_2 a3_0 a3_1 a3_2 a3_3 a3_4 a4_0 a4_1 a4_2 a4_3 a4_4 x419000_46 x419001_46 x419002_46 x419003_46 x419004_81 x420000_67 x420001_67 x420002_67 x420003_67 x420004_95 = some r) ∧ Aside0 (kq ≤ kj95) ∧ Aside0 (wc.heap[gb411]? = some (.cells #[.int .i64 a0_0, .int .i64 a0_1, .int .i64 a0_2] 23 (0, 0))) ∧ Aside0 (wc.heap[gb412]? = some (.cells #[.int .u32 a3_0, .int .u8 a3_1, .int .i64 a3_2, .int .i64 a3_3, .int .i64 a3_4] 28 (0, 0))) ∧ Aside0 (wc.heap[gb413]? = some (.cells #[.int .u32 a4_0, .int .u8 a4_1, .int .i64 a4_2, .int .i64 a4_3, .int .i64 a4_4] 28 (0, 0))) ∧ Aside0 (wc.heap[gb418]? = some (.cells #[.int .u32 x419000_46, .int .u8 x419001_46, .int .i64 x419002_46, .int .i64 x419003_46, .int .i64 x419004_81] 28 (0, 0))) ∧ Aside0 (wc.heap[gb419]? = some (.cells #[.int .u32 x420000_67, .int .u8 x420001_67, .int .i64 x420002_67, .int .i64 x420003_67, .int .i64 x420004_95] 28 (0, 0))) ∧ Aside0 (Below w.heap.size w wc))
                   case first =>
                    have H := HC103.out
                    clear HC103
                    by_cases c104 : x419004_81 < 0
                    ·
                     rw [if_pos c104] at H
                     have c104b0 : decide (x419004_81 < 0) = true := decide_eq_true c104
                     clear c104
                     (first | rw [c104b0] | (simp only [i64_w, i32_w]; rw [c104b0]) | skip)
                     have H' := Aside0.mk H
                     clear H
                     have hnb105 := NB418_411.out
                     have hnc105 := NB411_418.out
                     have hnb106 := NB418_412.out
                     have hnc106 := NB412_418.out
                     have hnb107 := NB418_413.out
                     have hnc107 := NB413_418.out
                     have hnb108 := NB418_419.out
                     have hnc108 := NB419_418.out
                     have hcz109_0 : wc.cell? ⟨gb418, 0, none⟩ = some (.int .u32 x419000_46) := (blk_cell BK418.out 0).trans rfl
                     have hcz109_1 : wc.cell? ⟨gb418, 1, none⟩ = some (.int .u8 x419001_46) := (blk_cell BK418.out 1).trans rfl
                     have hcz109_2 : wc.cell? ⟨gb418, 2, none⟩ = some (.int .i64 x419002_46) := (blk_cell BK418.out 2).trans rfl
                     have hcz109_3 : wc.cell? ⟨gb418, 3, none⟩ = some (.int .i64 x419003_46) := (blk_cell BK418.out 3).trans rfl
                     have hcz109_4 : wc.cell? ⟨gb418, 4, none⟩ = some (.int .i64 x419004_81) := (blk_cell BK418.out 4).trans rfl
                     have hfz109_0 := blk_frozen BK418.out 0
                     have hfz109_1 := blk_frozen BK418.out 1
                     have hfz109_2 := blk_frozen BK418.out 2
                     have hfz109_3 := blk_frozen BK418.out 3
                     have hfz109_4 := blk_frozen BK418.out 4
                     go_wp2
                     go_meet
                     case rel => exact ⟨_, (true), (by first | rfl | (simp; done) | (simp [*]; done)), H', ⟨by have := HJ6.out; have := HK2.out; have := HJ46.out; have := HJ67.out; have := HJ74.out; have := HJ81.out; have := HJ88.out; have := HJ95.out; first | omega | exact Nat.le_refl _⟩, ⟨by (with_reducible repeat (first | refine blk_drewN ?_ _ | refine blk_drew ?_ | refine blk_alloc ?_ _)); exact BK411.out⟩, ⟨by (with_reducible repeat (first | refine blk_drewN ?_ _ | refine blk_drew ?_ | refine blk_alloc ?_ _)); exact BK412.out⟩, ⟨by (with_reducible repeat (first | refine blk_drewN ?_ _ | refine blk_drew ?_ | refine blk_alloc ?_ _)); exact BK413.out⟩, ⟨by (with_reducible repeat (first | refine blk_drewN ?_ _ | refine blk_drew ?_ | refine blk_alloc ?_ _)); exact BK418.out⟩, ⟨by (with_reducible repeat (first | refine blk_drewN ?_ _ | refine blk_drew ?_ | refine blk_alloc ?_ _)); exact BK419.out⟩, ⟨by repeat (first | (with_reducible first | exact HB.out | apply below_alloc | apply pw_below_drewN | apply below_drew1 | refine below_set ?_ GE411.out | refine below_set ?_ GE412.out | refine below_set ?_ GE413.out | refine below_set ?_ GE418.out | refine below_set ?_ GE419.out) | exact HB.out)⟩⟩
                    ·
                     rw [if_neg c104] at H
                     have c104b0 : decide (x419004_81 < 0) = false := decide_eq_false c104
                     clear c104
                     (first | rw [c104b0] | (simp only [i64_w, i32_w]; rw [c104b0]) | skip)
                     have H' := Aside0.mk H
                     clear H
                     have hnb110 := NB418_411.out
                     have hnc110 := NB411_418.out
                     have hnb111 := NB418_412.out
                     have hnc111 := NB412_418.out
                     have hnb112 := NB418_413.out
                     have hnc112 := NB413_418.out
                     have hnb113 := NB418_419.out
                     have hnc113 := NB419_418.out
                     have hcz114_0 : wc.cell? ⟨gb418, 0, none⟩ = some (.int .u32 x419000_46) := (blk_cell BK418.out 0).trans rfl
                     have hcz114_1 : wc.cell? ⟨gb418, 1, none⟩ = some (.int .u8 x419001_46) := (blk_cell BK418.out 1).trans rfl
                     have hcz114_2 : wc.cell? ⟨gb418, 2, none⟩ = some (.int .i64 x419002_46) := (blk_cell BK418.out 2).trans rfl
                     have hcz114_3 : wc.cell? ⟨gb418, 3, none⟩ = some (.int .i64 x419003_46) := (blk_cell BK418.out 3).trans rfl
                     have hcz114_4 : wc.cell? ⟨gb418, 4, none⟩ = some (.int .i64 x419004_81) := (blk_cell BK418.out 4).trans rfl
                     have hfz114_0 := blk_frozen BK418.out 0
                     have hfz114_1 := blk_frozen BK418.out 1
                     have hfz114_2 := blk_frozen BK418.out 2
                     have hfz114_3 := blk_frozen BK418.out 3
                     have hfz114_4 := blk_frozen BK418.out 4
                     have hnb115 := NB419_411.out
                     have hnc115 := NB411_419.out
                     have hnb116 := NB419_412.out
                     have hnc116 := NB412_419.out
                     have hnb117 := NB419_413.out
                     have hnc117 := NB413_419.out
                     have hcz118_0 : wc.cell? ⟨gb419, 0, none⟩ = some (.int .u32 x420000_67) := (blk_cell BK419.out 0).trans rfl
                     have hcz118_1 : wc.cell? ⟨gb419, 1, none⟩ = some (.int .u8 x420001_67) := (blk_cell BK419.out 1).trans rfl
                     have hcz118_2 : wc.cell? ⟨gb419, 2, none⟩ = some (.int .i64 x420002_67) := (blk_cell BK419.out 2).trans rfl
                     have hcz118_3 : wc.cell? ⟨gb419, 3, none⟩ = some (.int .i64 x420003_67) := (blk_cell BK419.out 3).trans rfl
                     have hcz118_4 : wc.cell? ⟨gb419, 4, none⟩ = some (.int .i64 x420004_95) := (blk_cell BK419.out 4).trans rfl
                     have hfz118_0 := blk_frozen BK419.out 0
                     have hfz118_1 := blk_frozen BK419.out 1
                     have hfz118_2 := blk_frozen BK419.out 2
                     have hfz118_3 := blk_frozen BK419.out 3
                     have hfz118_4 := blk_frozen BK419.out 4
                     go_wp2
                     go_meet
                     case rel => exact ⟨_, (decide (x420004_95 < 0)), (by first | rfl | (simp; done) | (simp [*]; done)), H', ⟨by have := HJ6.out; have := HK2.out; have := HJ46.out; have := HJ67.out; have := HJ74.out; have := HJ81.out; have := HJ88.out; have := HJ95.out; first | omega | exact Nat.le_refl _⟩, ⟨by (with_reducible repeat (first | refine blk_drewN ?_ _ | refine blk_drew ?_ | refine blk_alloc ?_ _)); exact BK411.out⟩, ⟨by (with_reducible repeat (first | refine blk_drewN ?_ _ | refine blk_drew ?_ | refine blk_alloc ?_ _)); exact BK412.out⟩, ⟨by (with_reducible repeat (first | refine blk_drewN ?_ _ | refine blk_drew ?_ | refine blk_alloc ?_ _)); exact BK413.out⟩, ⟨by (with_reducible repeat (first | refine blk_drewN ?_ _ | refine blk_drew ?_ | refine blk_alloc ?_ _)); exact BK418.out⟩, ⟨by (with_reducible repeat (first | refine blk_drewN ?_ _ | refine blk_drew ?_ | refine blk_alloc ?_ _)); exact BK419.out⟩, ⟨by repeat (first | (with_reducible first | exact HB.out | apply below_alloc | apply pw_below_drewN | apply below_drew1 | refine below_set ?_ GE411.out | refine below_set ?_ GE412.out | refine below_set ?_ GE413.out | refine below_set ?_ GE418.out | refine below_set ?_ GE419.out) | exact HB.out)⟩⟩
                   case rest =>
                    clear HC103
                    try clear c104
                    try clear c104b0
                    try clear c105
                    try clear c106
                    try clear c107
                    try clear c108
                    try clear c110
                    try clear c111
                    try clear c112
                    try clear c113
                    try clear c115
                    try clear c116
                    try clear c117
                    try clear hcz109_0
                    try clear hcz109_1
                    try clear hcz109_2
                    try clear hcz109_3
                    try clear hcz109_4
                    try clear hcz114_0
                    try clear hcz114_1
                    try clear hcz114_2
                    try clear hcz114_3
                    try clear hcz114_4
                    try clear hcz118_0
                    try clear hcz118_1
                    try clear hcz118_2
                    try clear hcz118_3
                    try clear hcz118_4
                    try clear hfz109_0
                    try clear hfz109_1
                    try clear hfz109_2
                    try clear hfz109_3
                    try clear hfz109_4
                    try clear hfz114_0
                    try clear hfz114_1
                    try clear hfz114_2
                    try clear hfz114_3
                    try clear hfz114_4
                    try clear hfz118_0
                    try clear hfz118_1
                    try clear hfz118_2
                    try clear hfz118_3
                    try clear hfz118_4
                    obtain ⟨kq, x82_102, rfl, HA, HJ102, BK411, BK412, BK413, BK418, BK419, HB⟩ := hcut
                    cases kq with
                    | zero => exact absurd HA.out (by simp [horariumlaw15_PairNever.j8])
                    | succ kj102 =>
                     have H := HA.out
                     clear HA
                     simp only [horariumlaw15_PairNever.j8] at H
                     have HC119 := Aside0.mk H
                     clear H
                     go_upto_if 82 with (fail)
                     go_cut [16] (fun v16 wc => ∃ (kq : Nat) (x16_118 : Int), v16 = .int .i64 x16_118 ∧ Aside0 (horariumlaw15_PairNever.j9 kq a1 a2 a5 x13_2 x16_118 a0_0 a0_1 a0_2 a3_0 a3_1 a3_2 a3_3 a3_4 a4_0 a4_1 a4_2 a4_3 a4_4 x419000_46 x419001_46 x419002_46 x419003_46 x419004_81 x420000_67 x420001_67 x420002_67 x420003_67 x420004_95 = some r) ∧ Aside0 (kq ≤ kj102) ∧ Aside0 (wc.heap[gb411]? = some (.cells #[.int .i64 a0_0, .int .i64 a0_1, .int .i64 a0_2] 23 (0, 0))) ∧ Aside0 (wc.heap[gb412]? = some (.cells #[.int .u32 a3_0, .int .u8 a3_1, .int .i64 a3_2, .int .i64 a3_3, .int .i64 a3_4] 28 (0, 0))) ∧ Aside0 (wc.heap[gb413]? = some (.cells #[.int .u32 a4_0, .int .u8 a4_1, .int .i64 a4_2, .int .i64 a4_3, .int .i64 a4_4] 28 (0, 0))) ∧ Aside0 (wc.heap[gb418]? = some (.cells #[.int .u32 x419000_46, .int .u8 x419001_46, .int .i64 x419002_46, .int .i64 x419003_46, .int .i64 x419004_81] 28 (0, 0))) ∧ Aside0 (wc.heap[gb419]? = some (.cells #[.int .u32 x420000_67, .int .u8 x420001_67, .int .i64 x420002_67, .int .i64 x420003_67, .int .i64 x420004_95] 28 (0, 0))) ∧ Aside0 (Below w.heap.size w wc))
                     case first =>
                      have H := HC119.out
                      clear HC119
                      by_cases c120 : x82_102 = true
                      ·
                       subst c120
                       have H1 : (horariumlaw15_PairNever.j9 kj102 a1 a2 a5 x13_2 0 a0_0 a0_1 a0_2 a3_0 a3_1 a3_2 a3_3 a3_4 a4_0 a4_1 a4_2 a4_3 a4_4 x419000_46 x419001_46 x419002_46 x419003_46 x419004_81 x420000_67 x420001_67 x420002_67 x420003_67 x420004_95) = some r := by rw [if_pos rfl] at H; exact H
                       clear H
                       have H := H1
                       clear H1
                       have H' := Aside0.mk H
                       clear H
                       go_wp2
                       go_meet
                       case rel => exact ⟨_, (0), (by first | rfl | (simp; done) | (simp [*]; done)), H', ⟨by have := HJ6.out; have := HK2.out; have := HJ46.out; have := HJ67.out; have := HJ74.out; have := HJ81.out; have := HJ88.out; have := HJ95.out; have := HJ102.out; first | omega | exact Nat.le_refl _⟩, ⟨by (with_reducible repeat (first | refine blk_drewN ?_ _ | refine blk_drew ?_ | refine blk_alloc ?_ _)); exact BK411.out⟩, ⟨by (with_reducible repeat (first | refine blk_drewN ?_ _ | refine blk_drew ?_ | refine blk_alloc ?_ _)); exact BK412.out⟩, ⟨by (with_reducible repeat (first | refine blk_drewN ?_ _ | refine blk_drew ?_ | refine blk_alloc ?_ _)); exact BK413.out⟩, ⟨by (with_reducible repeat (first | refine blk_drewN ?_ _ | refine blk_drew ?_ | refine blk_alloc ?_ _)); exact BK418.out⟩, ⟨by (with_reducible repeat (first | refine blk_drewN ?_ _ | refine blk_drew ?_ | refine blk_alloc ?_ _)); exact BK419.out⟩, ⟨by repeat (first | (with_reducible first | exact HB.out | apply below_alloc | apply pw_below_drewN | apply below_drew1 | refine below_set ?_ GE411.out | refine below_set ?_ GE412.out | refine below_set ?_ GE413.out | refine below_set ?_ GE418.out | refine below_set ?_ GE419.out) | exact HB.out)⟩⟩
                      ·
                       replace c120 := Bool.eq_false_iff.mpr c120
                       subst c120
                       have H1 : (horariumlaw15_PairNever.j9 kj102 a1 a2 a5 x13_2 a5 a0_0 a0_1 a0_2 a3_0 a3_1 a3_2 a3_3 a3_4 a4_0 a4_1 a4_2 a4_3 a4_4 x419000_46 x419001_46 x419002_46 x419003_46 x419004_81 x420000_67 x420001_67 x420002_67 x420003_67 x420004_95) = some r := by rw [if_neg (show ¬ (false = true) by decide)] at H; exact H
                       clear H
                       have H := H1
                       clear H1
                       have H' := Aside0.mk H
                       clear H
                       go_wp2
                       go_meet
                       case rel => exact ⟨_, (a5), (by first | rfl | (simp; done) | (simp [*]; done)), H', ⟨by have := HJ6.out; have := HK2.out; have := HJ46.out; have := HJ67.out; have := HJ74.out; have := HJ81.out; have := HJ88.out; have := HJ95.out; have := HJ102.out; first | omega | exact Nat.le_refl _⟩, ⟨by (with_reducible repeat (first | refine blk_drewN ?_ _ | refine blk_drew ?_ | refine blk_alloc ?_ _)); exact BK411.out⟩, ⟨by (with_reducible repeat (first | refine blk_drewN ?_ _ | refine blk_drew ?_ | refine blk_alloc ?_ _)); exact BK412.out⟩, ⟨by (with_reducible repeat (first | refine blk_drewN ?_ _ | refine blk_drew ?_ | refine blk_alloc ?_ _)); exact BK413.out⟩, ⟨by (with_reducible repeat (first | refine blk_drewN ?_ _ | refine blk_drew ?_ | refine blk_alloc ?_ _)); exact BK418.out⟩, ⟨by (with_reducible repeat (first | refine blk_drewN ?_ _ | refine blk_drew ?_ | refine blk_alloc ?_ _)); exact BK419.out⟩, ⟨by repeat (first | (with_reducible first | exact HB.out | apply below_alloc | apply pw_below_drewN | apply below_drew1 | refine below_set ?_ GE411.out | refine below_set ?_ GE412.out | refine below_set ?_ GE413.out | refine below_set ?_ GE418.out | refine below_set ?_ GE419.out) | exact HB.out)⟩⟩
                     case rest => as_aux_lemma =>
                      clear HC119
                      try clear c120
                      obtain ⟨kq, x16_118, rfl, HA, HJ118, BK411, BK412, BK413, BK418, BK419, HB⟩ := hcut
                      cases kq with
                      | zero => exact absurd HA.out (by simp [horariumlaw15_PairNever.j9])
                      | succ kj118 =>
                       have H := HA.out
                       clear HA
                       simp only [horariumlaw15_PairNever.j9] at H
                       by_cases c121 : a5 ≥ 0
                       ·
                        rw [if_pos c121] at H
                        have c121b0 : decide (0 ≤ a5) = true := decide_eq_true c121
                        clear c121
                        replace H := Option.bind_eq_some_iff.mp H
                        obtain ⟨t420, A1220, H⟩ := H
                        replace H : (if t420 = true then (if a3_4 = (-2) then (horariumlaw15_PairNever.l0 kj118 a1 a2 a5 (wrap64 (x13_2 + 1)) a0_0 a0_1 a0_2 a3_0 a3_1 a3_2 a3_3 a3_4 a4_0 a4_1 a4_2 a4_3 a4_4) else (if a4_4 = (-2) then (horariumlaw15_PairNever.l0 kj118 a1 a2 a5 (wrap64 (x13_2 + 1)) a0_0 a0_1 a0_2 a3_0 a3_1 a3_2 a3_3 a3_4 a4_0 a4_1 a4_2 a4_3 a4_4) else ((pair_Never.f kj118 a0_0 a0_1 a0_2 a1 a2 a3_0 a3_1 a3_2 a3_3 a3_4 a4_0 a4_1 a4_2 a4_3 a4_4 a5).bind fun t421 => (if t421 = true then (horariumlaw15_PairNever.l0 kj118 a1 a2 a5 (wrap64 (x13_2 + 1)) a0_0 a0_1 a0_2 a3_0 a3_1 a3_2 a3_3 a3_4 a4_0 a4_1 a4_2 a4_3 a4_4) else (some false))))) else (horariumlaw15_PairNever.l0 kj118 a1 a2 a5 (wrap64 (x13_2 + 1)) a0_0 a0_1 a0_2 a3_0 a3_1 a3_2 a3_3 a3_4 a4_0 a4_1 a4_2 a4_3 a4_4)) = some r := H
                        have A122 := Aside0.mk A1220
                        clear A1220
                        by_cases c123 : t420 = true
                        ·
                         subst c123
                         have H1 : (if a3_4 = (-2) then (horariumlaw15_PairNever.l0 kj118 a1 a2 a5 (wrap64 (x13_2 + 1)) a0_0 a0_1 a0_2 a3_0 a3_1 a3_2 a3_3 a3_4 a4_0 a4_1 a4_2 a4_3 a4_4) else (if a4_4 = (-2) then (horariumlaw15_PairNever.l0 kj118 a1 a2 a5 (wrap64 (x13_2 + 1)) a0_0 a0_1 a0_2 a3_0 a3_1 a3_2 a3_3 a3_4 a4_0 a4_1 a4_2 a4_3 a4_4) else ((pair_Never.f kj118 a0_0 a0_1 a0_2 a1 a2 a3_0 a3_1 a3_2 a3_3 a3_4 a4_0 a4_1 a4_2 a4_3 a4_4 a5).bind fun t421 => (if t421 = true then (horariumlaw15_PairNever.l0 kj118 a1 a2 a5 (wrap64 (x13_2 + 1)) a0_0 a0_1 a0_2 a3_0 a3_1 a3_2 a3_3 a3_4 a4_0 a4_1 a4_2 a4_3 a4_4) else (some false))))) = some r := by rw [if_pos rfl] at H; exact H
                         clear H
                         have H := H1
                         clear H1
                         by_cases c124 : a3_4 = (-2)
                         ·
                          rw [if_pos c124] at H
                          have c124b0 : (a3_4 == (-2)) = true := beq_iff_eq.mpr c124
                          have c124b1 : (a3_4 != (-2)) = false := bne_eq_false_iff_eq.mpr c124
                          clear c124
                          have H' := Aside0.mk H
                          clear H
                          have hnb125 := NB411_412.out
                          have hnc125 := NB412_411.out
                          have hnb126 := NB411_413.out
                          have hnc126 := NB413_411.out
                          have hnb127 := NB411_418.out
                          have hnc127 := NB418_411.out
                          have hnb128 := NB411_419.out
                          have hnc128 := NB419_411.out
                          have hcz129_0 : wc.cell? ⟨gb411, 0, none⟩ = some (.int .i64 a0_0) := (blk_cell BK411.out 0).trans rfl
                          have hcz129_1 : wc.cell? ⟨gb411, 1, none⟩ = some (.int .i64 a0_1) := (blk_cell BK411.out 1).trans rfl
                          have hcz129_2 : wc.cell? ⟨gb411, 2, none⟩ = some (.int .i64 a0_2) := (blk_cell BK411.out 2).trans rfl
                          have hfz129_0 := blk_frozen BK411.out 0
                          have hfz129_1 := blk_frozen BK411.out 1
                          have hfz129_2 := blk_frozen BK411.out 2
                          have hnb130 := NB418_412.out
                          have hnc130 := NB412_418.out
                          have hnb131 := NB418_413.out
                          have hnc131 := NB413_418.out
                          have hnb132 := NB418_419.out
                          have hnc132 := NB419_418.out
                          have hcz133_0 : wc.cell? ⟨gb418, 0, none⟩ = some (.int .u32 x419000_46) := (blk_cell BK418.out 0).trans rfl
                          have hcz133_1 : wc.cell? ⟨gb418, 1, none⟩ = some (.int .u8 x419001_46) := (blk_cell BK418.out 1).trans rfl
                          have hcz133_2 : wc.cell? ⟨gb418, 2, none⟩ = some (.int .i64 x419002_46) := (blk_cell BK418.out 2).trans rfl
                          have hcz133_3 : wc.cell? ⟨gb418, 3, none⟩ = some (.int .i64 x419003_46) := (blk_cell BK418.out 3).trans rfl
                          have hcz133_4 : wc.cell? ⟨gb418, 4, none⟩ = some (.int .i64 x419004_81) := (blk_cell BK418.out 4).trans rfl
                          have hfz133_0 := blk_frozen BK418.out 0
                          have hfz133_1 := blk_frozen BK418.out 1
                          have hfz133_2 := blk_frozen BK418.out 2
                          have hfz133_3 := blk_frozen BK418.out 3
                          have hfz133_4 := blk_frozen BK418.out 4
                          have hnb134 := NB419_412.out
                          have hnc134 := NB412_419.out
                          have hnb135 := NB419_413.out
                          have hnc135 := NB413_419.out
                          have hcz136_0 : wc.cell? ⟨gb419, 0, none⟩ = some (.int .u32 x420000_67) := (blk_cell BK419.out 0).trans rfl
                          have hcz136_1 : wc.cell? ⟨gb419, 1, none⟩ = some (.int .u8 x420001_67) := (blk_cell BK419.out 1).trans rfl
                          have hcz136_2 : wc.cell? ⟨gb419, 2, none⟩ = some (.int .i64 x420002_67) := (blk_cell BK419.out 2).trans rfl
                          have hcz136_3 : wc.cell? ⟨gb419, 3, none⟩ = some (.int .i64 x420003_67) := (blk_cell BK419.out 3).trans rfl
                          have hcz136_4 : wc.cell? ⟨gb419, 4, none⟩ = some (.int .i64 x420004_95) := (blk_cell BK419.out 4).trans rfl
                          have hfz136_0 := blk_frozen BK419.out 0
                          have hfz136_1 := blk_frozen BK419.out 1
                          have hfz136_2 := blk_frozen BK419.out 2
                          have hfz136_3 := blk_frozen BK419.out 3
                          have hfz136_4 := blk_frozen BK419.out 4
                          go_wp2_with (first | (go_at_call 15; (with_reducible refine (pair_Never.calls kj118 a0_0 a0_1 a0_2 a1 a2 x419000_46 x419001_46 x419002_46 x419003_46 x419004_81 x420000_67 x420001_67 x420002_67 x420003_67 x420004_95 x16_118 true _ A122.out).mono ?_); rintro e w137 ⟨rfl, hb⟩; have n0_ := Aside0.mk (blk_below (g := gb411) (o := .cells #[.int .i64 a0_0, .int .i64 a0_1, .int .i64 a0_2] 23 (0, 0)) (by (with_reducible repeat (first | refine blk_drewN ?_ _ | refine blk_drew ?_ | refine blk_alloc ?_ _)); exact BK411.out) hb); have n1_ := Aside0.mk (blk_below (g := gb412) (o := .cells #[.int .u32 a3_0, .int .u8 a3_1, .int .i64 a3_2, .int .i64 a3_3, .int .i64 a3_4] 28 (0, 0)) (by (with_reducible repeat (first | refine blk_drewN ?_ _ | refine blk_drew ?_ | refine blk_alloc ?_ _)); exact BK412.out) hb); have n2_ := Aside0.mk (blk_below (g := gb413) (o := .cells #[.int .u32 a4_0, .int .u8 a4_1, .int .i64 a4_2, .int .i64 a4_3, .int .i64 a4_4] 28 (0, 0)) (by (with_reducible repeat (first | refine blk_drewN ?_ _ | refine blk_drew ?_ | refine blk_alloc ?_ _)); exact BK413.out) hb); have n3_ := Aside0.mk (blk_below (g := gb418) (o := .cells #[.int .u32 x419000_46, .int .u8 x419001_46, .int .i64 x419002_46, .int .i64 x419003_46, .int .i64 x419004_81] 28 (0, 0)) (by (with_reducible repeat (first | refine blk_drewN ?_ _ | refine blk_drew ?_ | refine blk_alloc ?_ _)); exact BK418.out) hb); have n4_ := Aside0.mk (blk_below (g := gb419) (o := .cells #[.int .u32 x420000_67, .int .u8 x420001_67, .int .i64 x420002_67, .int .i64 x420003_67, .int .i64 x420004_95] 28 (0, 0)) (by (with_reducible repeat (first | refine blk_drewN ?_ _ | refine blk_drew ?_ | refine blk_alloc ?_ _)); exact BK419.out) hb); have n5_ := Aside0.mk (below_step (by repeat (first | (with_reducible first | exact HB.out | apply below_alloc | apply pw_below_drewN | apply below_drew1 | refine below_set ?_ GE411.out | refine below_set ?_ GE412.out | refine below_set ?_ GE413.out | refine below_set ?_ GE418.out | refine below_set ?_ GE419.out) | exact HB.out)) hb); clear BK411; clear BK412; clear BK413; clear BK418; clear BK419; clear HB; have BK411 := n0_; have BK412 := n1_; have BK413 := n2_; have BK418 := n3_; have BK419 := n4_; have HB := n5_; clear n0_ n1_ n2_ n3_ n4_ n5_; (try clear hb); (try clear hb2); (try clear hk); (try clear hi); have hnb138 := NB412_413.out; have hnc138 := NB413_412.out; have hcz139_0 : w137.cell? ⟨gb412, 0, none⟩ = some (.int .u32 a3_0) := (blk_cell BK412.out 0).trans rfl; have hcz139_1 : w137.cell? ⟨gb412, 1, none⟩ = some (.int .u8 a3_1) := (blk_cell BK412.out 1).trans rfl; have hcz139_2 : w137.cell? ⟨gb412, 2, none⟩ = some (.int .i64 a3_2) := (blk_cell BK412.out 2).trans rfl; have hcz139_3 : w137.cell? ⟨gb412, 3, none⟩ = some (.int .i64 a3_3) := (blk_cell BK412.out 3).trans rfl; have hcz139_4 : w137.cell? ⟨gb412, 4, none⟩ = some (.int .i64 a3_4) := (blk_cell BK412.out 4).trans rfl; have hfz139_0 := blk_frozen BK412.out 0; have hfz139_1 := blk_frozen BK412.out 1; have hfz139_2 := blk_frozen BK412.out 2; have hfz139_3 := blk_frozen BK412.out 3; have hfz139_4 := blk_frozen BK412.out 4))
                          go_roundg kj118
                          case measure => have := HJ6.out; have := HK2.out; have := HJ46.out; have := HJ67.out; have := HJ74.out; have := HJ81.out; have := HJ88.out; have := HJ95.out; have := HJ102.out; have := HJ118.out; omega
                          case rel => exact ⟨(wrap64 (x13_2 + 1)), (by first | rfl | (simp; done) | (simp [*]; done)), H', ⟨by have := HJ6.out; have := HK2.out; have := HJ46.out; have := HJ67.out; have := HJ74.out; have := HJ81.out; have := HJ88.out; have := HJ95.out; have := HJ102.out; have := HJ118.out; omega⟩, ⟨by (with_reducible repeat (first | refine blk_drewN ?_ _ | refine blk_drew ?_ | refine blk_alloc ?_ _)); exact BK411.out⟩, ⟨by (with_reducible repeat (first | refine blk_drewN ?_ _ | refine blk_drew ?_ | refine blk_alloc ?_ _)); exact BK412.out⟩, ⟨by (with_reducible repeat (first | refine blk_drewN ?_ _ | refine blk_drew ?_ | refine blk_alloc ?_ _)); exact BK413.out⟩, ⟨by repeat (first | (with_reducible first | exact HB.out | apply below_alloc | apply pw_below_drewN | apply below_drew1 | refine below_set ?_ GE411.out | refine below_set ?_ GE412.out | refine below_set ?_ GE413.out | refine below_set ?_ GE418.out | refine below_set ?_ GE419.out) | exact HB.out)⟩⟩
                         ·
                          rw [if_neg c124] at H
                          have c124b0 : (a3_4 == (-2)) = false := beq_eq_false_iff_ne.mpr c124
                          have c124b1 : (a3_4 != (-2)) = true := bne_iff_ne.mpr c124
                          by_cases c140 : a4_4 = (-2)
                          ·
                           rw [if_pos c140] at H
                           have c140b0 : (a4_4 == (-2)) = true := beq_iff_eq.mpr c140
                           have c140b1 : (a4_4 != (-2)) = false := bne_eq_false_iff_eq.mpr c140
                           clear c140
                           have H' := Aside0.mk H
                           clear H
                           have hnb141 := NB411_412.out
                           have hnc141 := NB412_411.out
                           have hnb142 := NB411_413.out
                           have hnc142 := NB413_411.out
                           have hnb143 := NB411_418.out
                           have hnc143 := NB418_411.out
                           have hnb144 := NB411_419.out
                           have hnc144 := NB419_411.out
                           have hcz145_0 : wc.cell? ⟨gb411, 0, none⟩ = some (.int .i64 a0_0) := (blk_cell BK411.out 0).trans rfl
                           have hcz145_1 : wc.cell? ⟨gb411, 1, none⟩ = some (.int .i64 a0_1) := (blk_cell BK411.out 1).trans rfl
                           have hcz145_2 : wc.cell? ⟨gb411, 2, none⟩ = some (.int .i64 a0_2) := (blk_cell BK411.out 2).trans rfl
                           have hfz145_0 := blk_frozen BK411.out 0
                           have hfz145_1 := blk_frozen BK411.out 1
                           have hfz145_2 := blk_frozen BK411.out 2
                           have hnb146 := NB418_412.out
                           have hnc146 := NB412_418.out
                           have hnb147 := NB418_413.out
                           have hnc147 := NB413_418.out
                           have hnb148 := NB418_419.out
                           have hnc148 := NB419_418.out
                           have hcz149_0 : wc.cell? ⟨gb418, 0, none⟩ = some (.int .u32 x419000_46) := (blk_cell BK418.out 0).trans rfl
                           have hcz149_1 : wc.cell? ⟨gb418, 1, none⟩ = some (.int .u8 x419001_46) := (blk_cell BK418.out 1).trans rfl
                           have hcz149_2 : wc.cell? ⟨gb418, 2, none⟩ = some (.int .i64 x419002_46) := (blk_cell BK418.out 2).trans rfl
                           have hcz149_3 : wc.cell? ⟨gb418, 3, none⟩ = some (.int .i64 x419003_46) := (blk_cell BK418.out 3).trans rfl
                           have hcz149_4 : wc.cell? ⟨gb418, 4, none⟩ = some (.int .i64 x419004_81) := (blk_cell BK418.out 4).trans rfl
                           have hfz149_0 := blk_frozen BK418.out 0
                           have hfz149_1 := blk_frozen BK418.out 1
                           have hfz149_2 := blk_frozen BK418.out 2
                           have hfz149_3 := blk_frozen BK418.out 3
                           have hfz149_4 := blk_frozen BK418.out 4
                           have hnb150 := NB419_412.out
                           have hnc150 := NB412_419.out
                           have hnb151 := NB419_413.out
                           have hnc151 := NB413_419.out
                           have hcz152_0 : wc.cell? ⟨gb419, 0, none⟩ = some (.int .u32 x420000_67) := (blk_cell BK419.out 0).trans rfl
                           have hcz152_1 : wc.cell? ⟨gb419, 1, none⟩ = some (.int .u8 x420001_67) := (blk_cell BK419.out 1).trans rfl
                           have hcz152_2 : wc.cell? ⟨gb419, 2, none⟩ = some (.int .i64 x420002_67) := (blk_cell BK419.out 2).trans rfl
                           have hcz152_3 : wc.cell? ⟨gb419, 3, none⟩ = some (.int .i64 x420003_67) := (blk_cell BK419.out 3).trans rfl
                           have hcz152_4 : wc.cell? ⟨gb419, 4, none⟩ = some (.int .i64 x420004_95) := (blk_cell BK419.out 4).trans rfl
                           have hfz152_0 := blk_frozen BK419.out 0
                           have hfz152_1 := blk_frozen BK419.out 1
                           have hfz152_2 := blk_frozen BK419.out 2
                           have hfz152_3 := blk_frozen BK419.out 3
                           have hfz152_4 := blk_frozen BK419.out 4
                           go_wp2_with (first | (go_at_call 15; (with_reducible refine (pair_Never.calls kj118 a0_0 a0_1 a0_2 a1 a2 x419000_46 x419001_46 x419002_46 x419003_46 x419004_81 x420000_67 x420001_67 x420002_67 x420003_67 x420004_95 x16_118 true _ A122.out).mono ?_); rintro e w153 ⟨rfl, hb⟩; have n0_ := Aside0.mk (blk_below (g := gb411) (o := .cells #[.int .i64 a0_0, .int .i64 a0_1, .int .i64 a0_2] 23 (0, 0)) (by (with_reducible repeat (first | refine blk_drewN ?_ _ | refine blk_drew ?_ | refine blk_alloc ?_ _)); exact BK411.out) hb); have n1_ := Aside0.mk (blk_below (g := gb412) (o := .cells #[.int .u32 a3_0, .int .u8 a3_1, .int .i64 a3_2, .int .i64 a3_3, .int .i64 a3_4] 28 (0, 0)) (by (with_reducible repeat (first | refine blk_drewN ?_ _ | refine blk_drew ?_ | refine blk_alloc ?_ _)); exact BK412.out) hb); have n2_ := Aside0.mk (blk_below (g := gb413) (o := .cells #[.int .u32 a4_0, .int .u8 a4_1, .int .i64 a4_2, .int .i64 a4_3, .int .i64 a4_4] 28 (0, 0)) (by (with_reducible repeat (first | refine blk_drewN ?_ _ | refine blk_drew ?_ | refine blk_alloc ?_ _)); exact BK413.out) hb); have n3_ := Aside0.mk (blk_below (g := gb418) (o := .cells #[.int .u32 x419000_46, .int .u8 x419001_46, .int .i64 x419002_46, .int .i64 x419003_46, .int .i64 x419004_81] 28 (0, 0)) (by (with_reducible repeat (first | refine blk_drewN ?_ _ | refine blk_drew ?_ | refine blk_alloc ?_ _)); exact BK418.out) hb); have n4_ := Aside0.mk (blk_below (g := gb419) (o := .cells #[.int .u32 x420000_67, .int .u8 x420001_67, .int .i64 x420002_67, .int .i64 x420003_67, .int .i64 x420004_95] 28 (0, 0)) (by (with_reducible repeat (first | refine blk_drewN ?_ _ | refine blk_drew ?_ | refine blk_alloc ?_ _)); exact BK419.out) hb); have n5_ := Aside0.mk (below_step (by repeat (first | (with_reducible first | exact HB.out | apply below_alloc | apply pw_below_drewN | apply below_drew1 | refine below_set ?_ GE411.out | refine below_set ?_ GE412.out | refine below_set ?_ GE413.out | refine below_set ?_ GE418.out | refine below_set ?_ GE419.out) | exact HB.out)) hb); clear BK411; clear BK412; clear BK413; clear BK418; clear BK419; clear HB; have BK411 := n0_; have BK412 := n1_; have BK413 := n2_; have BK418 := n3_; have BK419 := n4_; have HB := n5_; clear n0_ n1_ n2_ n3_ n4_ n5_; (try clear hb); (try clear hb2); (try clear hk); (try clear hi); have hnb154 := NB412_413.out; have hnc154 := NB413_412.out; have hcz155_0 : w153.cell? ⟨gb412, 0, none⟩ = some (.int .u32 a3_0) := (blk_cell BK412.out 0).trans rfl; have hcz155_1 : w153.cell? ⟨gb412, 1, none⟩ = some (.int .u8 a3_1) := (blk_cell BK412.out 1).trans rfl; have hcz155_2 : w153.cell? ⟨gb412, 2, none⟩ = some (.int .i64 a3_2) := (blk_cell BK412.out 2).trans rfl; have hcz155_3 : w153.cell? ⟨gb412, 3, none⟩ = some (.int .i64 a3_3) := (blk_cell BK412.out 3).trans rfl; have hcz155_4 : w153.cell? ⟨gb412, 4, none⟩ = some (.int .i64 a3_4) := (blk_cell BK412.out 4).trans rfl; have hfz155_0 := blk_frozen BK412.out 0; have hfz155_1 := blk_frozen BK412.out 1; have hfz155_2 := blk_frozen BK412.out 2; have hfz155_3 := blk_frozen BK412.out 3; have hfz155_4 := blk_frozen BK412.out 4; have hcz156_0 : w153.cell? ⟨gb413, 0, none⟩ = some (.int .u32 a4_0) := (blk_cell BK413.out 0).trans rfl; have hcz156_1 : w153.cell? ⟨gb413, 1, none⟩ = some (.int .u8 a4_1) := (blk_cell BK413.out 1).trans rfl; have hcz156_2 : w153.cell? ⟨gb413, 2, none⟩ = some (.int .i64 a4_2) := (blk_cell BK413.out 2).trans rfl; have hcz156_3 : w153.cell? ⟨gb413, 3, none⟩ = some (.int .i64 a4_3) := (blk_cell BK413.out 3).trans rfl; have hcz156_4 : w153.cell? ⟨gb413, 4, none⟩ = some (.int .i64 a4_4) := (blk_cell BK413.out 4).trans rfl; have hfz156_0 := blk_frozen BK413.out 0; have hfz156_1 := blk_frozen BK413.out 1; have hfz156_2 := blk_frozen BK413.out 2; have hfz156_3 := blk_frozen BK413.out 3; have hfz156_4 := blk_frozen BK413.out 4))
                           go_roundg kj118
                           case measure => have := HJ6.out; have := HK2.out; have := HJ46.out; have := HJ67.out; have := HJ74.out; have := HJ81.out; have := HJ88.out; have := HJ95.out; have := HJ102.out; have := HJ118.out; omega
                           case rel => exact ⟨(wrap64 (x13_2 + 1)), (by first | rfl | (simp; done) | (simp [*]; done)), H', ⟨by have := HJ6.out; have := HK2.out; have := HJ46.out; have := HJ67.out; have := HJ74.out; have := HJ81.out; have := HJ88.out; have := HJ95.out; have := HJ102.out; have := HJ118.out; omega⟩, ⟨by (with_reducible repeat (first | refine blk_drewN ?_ _ | refine blk_drew ?_ | refine blk_alloc ?_ _)); exact BK411.out⟩, ⟨by (with_reducible repeat (first | refine blk_drewN ?_ _ | refine blk_drew ?_ | refine blk_alloc ?_ _)); exact BK412.out⟩, ⟨by (with_reducible repeat (first | refine blk_drewN ?_ _ | refine blk_drew ?_ | refine blk_alloc ?_ _)); exact BK413.out⟩, ⟨by repeat (first | (with_reducible first | exact HB.out | apply below_alloc | apply pw_below_drewN | apply below_drew1 | refine below_set ?_ GE411.out | refine below_set ?_ GE412.out | refine below_set ?_ GE413.out | refine below_set ?_ GE418.out | refine below_set ?_ GE419.out) | exact HB.out)⟩⟩
                          ·
                           rw [if_neg c140] at H
                           have c140b0 : (a4_4 == (-2)) = false := beq_eq_false_iff_ne.mpr c140
                           have c140b1 : (a4_4 != (-2)) = true := bne_iff_ne.mpr c140
                           replace H := Option.bind_eq_some_iff.mp H
                           obtain ⟨t421, A1570, H⟩ := H
                           replace H : (if t421 = true then (horariumlaw15_PairNever.l0 kj118 a1 a2 a5 (wrap64 (x13_2 + 1)) a0_0 a0_1 a0_2 a3_0 a3_1 a3_2 a3_3 a3_4 a4_0 a4_1 a4_2 a4_3 a4_4) else (some false)) = some r := H
                           have A157 := Aside0.mk A1570
                           clear A1570
                           by_cases c158 : t421 = true
                           ·
                            subst c158
                            have H1 : (horariumlaw15_PairNever.l0 kj118 a1 a2 a5 (wrap64 (x13_2 + 1)) a0_0 a0_1 a0_2 a3_0 a3_1 a3_2 a3_3 a3_4 a4_0 a4_1 a4_2 a4_3 a4_4) = some r := by rw [if_pos rfl] at H; exact H
                            clear H
                            have H := H1
                            clear H1
                            have H' := Aside0.mk H
                            clear H
                            have hnb159 := NB411_412.out
                            have hnc159 := NB412_411.out
                            have hnb160 := NB411_413.out
                            have hnc160 := NB413_411.out
                            have hnb161 := NB411_418.out
                            have hnc161 := NB418_411.out
                            have hnb162 := NB411_419.out
                            have hnc162 := NB419_411.out
                            have hcz163_0 : wc.cell? ⟨gb411, 0, none⟩ = some (.int .i64 a0_0) := (blk_cell BK411.out 0).trans rfl
                            have hcz163_1 : wc.cell? ⟨gb411, 1, none⟩ = some (.int .i64 a0_1) := (blk_cell BK411.out 1).trans rfl
                            have hcz163_2 : wc.cell? ⟨gb411, 2, none⟩ = some (.int .i64 a0_2) := (blk_cell BK411.out 2).trans rfl
                            have hfz163_0 := blk_frozen BK411.out 0
                            have hfz163_1 := blk_frozen BK411.out 1
                            have hfz163_2 := blk_frozen BK411.out 2
                            have hnb164 := NB418_412.out
                            have hnc164 := NB412_418.out
                            have hnb165 := NB418_413.out
                            have hnc165 := NB413_418.out
                            have hnb166 := NB418_419.out
                            have hnc166 := NB419_418.out
                            have hcz167_0 : wc.cell? ⟨gb418, 0, none⟩ = some (.int .u32 x419000_46) := (blk_cell BK418.out 0).trans rfl
                            have hcz167_1 : wc.cell? ⟨gb418, 1, none⟩ = some (.int .u8 x419001_46) := (blk_cell BK418.out 1).trans rfl
                            have hcz167_2 : wc.cell? ⟨gb418, 2, none⟩ = some (.int .i64 x419002_46) := (blk_cell BK418.out 2).trans rfl
                            have hcz167_3 : wc.cell? ⟨gb418, 3, none⟩ = some (.int .i64 x419003_46) := (blk_cell BK418.out 3).trans rfl
                            have hcz167_4 : wc.cell? ⟨gb418, 4, none⟩ = some (.int .i64 x419004_81) := (blk_cell BK418.out 4).trans rfl
                            have hfz167_0 := blk_frozen BK418.out 0
                            have hfz167_1 := blk_frozen BK418.out 1
                            have hfz167_2 := blk_frozen BK418.out 2
                            have hfz167_3 := blk_frozen BK418.out 3
                            have hfz167_4 := blk_frozen BK418.out 4
                            have hnb168 := NB419_412.out
                            have hnc168 := NB412_419.out
                            have hnb169 := NB419_413.out
                            have hnc169 := NB413_419.out
                            have hcz170_0 : wc.cell? ⟨gb419, 0, none⟩ = some (.int .u32 x420000_67) := (blk_cell BK419.out 0).trans rfl
                            have hcz170_1 : wc.cell? ⟨gb419, 1, none⟩ = some (.int .u8 x420001_67) := (blk_cell BK419.out 1).trans rfl
                            have hcz170_2 : wc.cell? ⟨gb419, 2, none⟩ = some (.int .i64 x420002_67) := (blk_cell BK419.out 2).trans rfl
                            have hcz170_3 : wc.cell? ⟨gb419, 3, none⟩ = some (.int .i64 x420003_67) := (blk_cell BK419.out 3).trans rfl
                            have hcz170_4 : wc.cell? ⟨gb419, 4, none⟩ = some (.int .i64 x420004_95) := (blk_cell BK419.out 4).trans rfl
                            have hfz170_0 := blk_frozen BK419.out 0
                            have hfz170_1 := blk_frozen BK419.out 1
                            have hfz170_2 := blk_frozen BK419.out 2
                            have hfz170_3 := blk_frozen BK419.out 3
                            have hfz170_4 := blk_frozen BK419.out 4
                            go_wp2_with (first | (go_at_call 15; (with_reducible refine (pair_Never.calls kj118 a0_0 a0_1 a0_2 a1 a2 x419000_46 x419001_46 x419002_46 x419003_46 x419004_81 x420000_67 x420001_67 x420002_67 x420003_67 x420004_95 x16_118 true _ A122.out).mono ?_); rintro e w171 ⟨rfl, hb⟩; have n0_ := Aside0.mk (blk_below (g := gb411) (o := .cells #[.int .i64 a0_0, .int .i64 a0_1, .int .i64 a0_2] 23 (0, 0)) (by (with_reducible repeat (first | refine blk_drewN ?_ _ | refine blk_drew ?_ | refine blk_alloc ?_ _)); exact BK411.out) hb); have n1_ := Aside0.mk (blk_below (g := gb412) (o := .cells #[.int .u32 a3_0, .int .u8 a3_1, .int .i64 a3_2, .int .i64 a3_3, .int .i64 a3_4] 28 (0, 0)) (by (with_reducible repeat (first | refine blk_drewN ?_ _ | refine blk_drew ?_ | refine blk_alloc ?_ _)); exact BK412.out) hb); have n2_ := Aside0.mk (blk_below (g := gb413) (o := .cells #[.int .u32 a4_0, .int .u8 a4_1, .int .i64 a4_2, .int .i64 a4_3, .int .i64 a4_4] 28 (0, 0)) (by (with_reducible repeat (first | refine blk_drewN ?_ _ | refine blk_drew ?_ | refine blk_alloc ?_ _)); exact BK413.out) hb); have n3_ := Aside0.mk (blk_below (g := gb418) (o := .cells #[.int .u32 x419000_46, .int .u8 x419001_46, .int .i64 x419002_46, .int .i64 x419003_46, .int .i64 x419004_81] 28 (0, 0)) (by (with_reducible repeat (first | refine blk_drewN ?_ _ | refine blk_drew ?_ | refine blk_alloc ?_ _)); exact BK418.out) hb); have n4_ := Aside0.mk (blk_below (g := gb419) (o := .cells #[.int .u32 x420000_67, .int .u8 x420001_67, .int .i64 x420002_67, .int .i64 x420003_67, .int .i64 x420004_95] 28 (0, 0)) (by (with_reducible repeat (first | refine blk_drewN ?_ _ | refine blk_drew ?_ | refine blk_alloc ?_ _)); exact BK419.out) hb); have n5_ := Aside0.mk (below_step (by repeat (first | (with_reducible first | exact HB.out | apply below_alloc | apply pw_below_drewN | apply below_drew1 | refine below_set ?_ GE411.out | refine below_set ?_ GE412.out | refine below_set ?_ GE413.out | refine below_set ?_ GE418.out | refine below_set ?_ GE419.out) | exact HB.out)) hb); clear BK411; clear BK412; clear BK413; clear BK418; clear BK419; clear HB; have BK411 := n0_; have BK412 := n1_; have BK413 := n2_; have BK418 := n3_; have BK419 := n4_; have HB := n5_; clear n0_ n1_ n2_ n3_ n4_ n5_; (try clear hb); (try clear hb2); (try clear hk); (try clear hi); have hnb172 := NB412_413.out; have hnc172 := NB413_412.out; have hcz173_0 : w171.cell? ⟨gb412, 0, none⟩ = some (.int .u32 a3_0) := (blk_cell BK412.out 0).trans rfl; have hcz173_1 : w171.cell? ⟨gb412, 1, none⟩ = some (.int .u8 a3_1) := (blk_cell BK412.out 1).trans rfl; have hcz173_2 : w171.cell? ⟨gb412, 2, none⟩ = some (.int .i64 a3_2) := (blk_cell BK412.out 2).trans rfl; have hcz173_3 : w171.cell? ⟨gb412, 3, none⟩ = some (.int .i64 a3_3) := (blk_cell BK412.out 3).trans rfl; have hcz173_4 : w171.cell? ⟨gb412, 4, none⟩ = some (.int .i64 a3_4) := (blk_cell BK412.out 4).trans rfl; have hfz173_0 := blk_frozen BK412.out 0; have hfz173_1 := blk_frozen BK412.out 1; have hfz173_2 := blk_frozen BK412.out 2; have hfz173_3 := blk_frozen BK412.out 3; have hfz173_4 := blk_frozen BK412.out 4; have hcz174_0 : w171.cell? ⟨gb413, 0, none⟩ = some (.int .u32 a4_0) := (blk_cell BK413.out 0).trans rfl; have hcz174_1 : w171.cell? ⟨gb413, 1, none⟩ = some (.int .u8 a4_1) := (blk_cell BK413.out 1).trans rfl; have hcz174_2 : w171.cell? ⟨gb413, 2, none⟩ = some (.int .i64 a4_2) := (blk_cell BK413.out 2).trans rfl; have hcz174_3 : w171.cell? ⟨gb413, 3, none⟩ = some (.int .i64 a4_3) := (blk_cell BK413.out 3).trans rfl; have hcz174_4 : w171.cell? ⟨gb413, 4, none⟩ = some (.int .i64 a4_4) := (blk_cell BK413.out 4).trans rfl; have hfz174_0 := blk_frozen BK413.out 0; have hfz174_1 := blk_frozen BK413.out 1; have hfz174_2 := blk_frozen BK413.out 2; have hfz174_3 := blk_frozen BK413.out 3; have hfz174_4 := blk_frozen BK413.out 4; have hcz175_0 : w171.cell? ⟨gb411, 0, none⟩ = some (.int .i64 a0_0) := (blk_cell BK411.out 0).trans rfl; have hcz175_1 : w171.cell? ⟨gb411, 1, none⟩ = some (.int .i64 a0_1) := (blk_cell BK411.out 1).trans rfl; have hcz175_2 : w171.cell? ⟨gb411, 2, none⟩ = some (.int .i64 a0_2) := (blk_cell BK411.out 2).trans rfl; have hfz175_0 := blk_frozen BK411.out 0; have hfz175_1 := blk_frozen BK411.out 1; have hfz175_2 := blk_frozen BK411.out 2) | (go_at_call 15; (with_reducible refine (pair_Never.calls kj118 a0_0 a0_1 a0_2 a1 a2 a3_0 a3_1 a3_2 a3_3 a3_4 a4_0 a4_1 a4_2 a4_3 a4_4 a5 true _ A157.out).mono ?_); rintro e w176 ⟨rfl, hb⟩; have n0_ := Aside0.mk (blk_below (g := gb411) (o := .cells #[.int .i64 a0_0, .int .i64 a0_1, .int .i64 a0_2] 23 (0, 0)) (by (with_reducible repeat (first | refine blk_drewN ?_ _ | refine blk_drew ?_ | refine blk_alloc ?_ _)); exact BK411.out) hb); have n1_ := Aside0.mk (blk_below (g := gb412) (o := .cells #[.int .u32 a3_0, .int .u8 a3_1, .int .i64 a3_2, .int .i64 a3_3, .int .i64 a3_4] 28 (0, 0)) (by (with_reducible repeat (first | refine blk_drewN ?_ _ | refine blk_drew ?_ | refine blk_alloc ?_ _)); exact BK412.out) hb); have n2_ := Aside0.mk (blk_below (g := gb413) (o := .cells #[.int .u32 a4_0, .int .u8 a4_1, .int .i64 a4_2, .int .i64 a4_3, .int .i64 a4_4] 28 (0, 0)) (by (with_reducible repeat (first | refine blk_drewN ?_ _ | refine blk_drew ?_ | refine blk_alloc ?_ _)); exact BK413.out) hb); have n3_ := Aside0.mk (blk_below (g := gb418) (o := .cells #[.int .u32 x419000_46, .int .u8 x419001_46, .int .i64 x419002_46, .int .i64 x419003_46, .int .i64 x419004_81] 28 (0, 0)) (by (with_reducible repeat (first | refine blk_drewN ?_ _ | refine blk_drew ?_ | refine blk_alloc ?_ _)); exact BK418.out) hb); have n4_ := Aside0.mk (blk_below (g := gb419) (o := .cells #[.int .u32 x420000_67, .int .u8 x420001_67, .int .i64 x420002_67, .int .i64 x420003_67, .int .i64 x420004_95] 28 (0, 0)) (by (with_reducible repeat (first | refine blk_drewN ?_ _ | refine blk_drew ?_ | refine blk_alloc ?_ _)); exact BK419.out) hb); have n5_ := Aside0.mk (below_step (by repeat (first | (with_reducible first | exact HB.out | apply below_alloc | apply pw_below_drewN | apply below_drew1 | refine below_set ?_ GE411.out | refine below_set ?_ GE412.out | refine below_set ?_ GE413.out | refine below_set ?_ GE418.out | refine below_set ?_ GE419.out) | exact HB.out)) hb); clear BK411; clear BK412; clear BK413; clear BK418; clear BK419; clear HB; have BK411 := n0_; have BK412 := n1_; have BK413 := n2_; have BK418 := n3_; have BK419 := n4_; have HB := n5_; clear n0_ n1_ n2_ n3_ n4_ n5_; (try clear hb); (try clear hb2); (try clear hk); (try clear hi)))
                            go_roundg kj118
                            case measure => have := HJ6.out; have := HK2.out; have := HJ46.out; have := HJ67.out; have := HJ74.out; have := HJ81.out; have := HJ88.out; have := HJ95.out; have := HJ102.out; have := HJ118.out; omega
                            case rel => exact ⟨(wrap64 (x13_2 + 1)), (by first | rfl | (simp; done) | (simp [*]; done)), H', ⟨by have := HJ6.out; have := HK2.out; have := HJ46.out; have := HJ67.out; have := HJ74.out; have := HJ81.out; have := HJ88.out; have := HJ95.out; have := HJ102.out; have := HJ118.out; omega⟩, ⟨by (with_reducible repeat (first | refine blk_drewN ?_ _ | refine blk_drew ?_ | refine blk_alloc ?_ _)); exact BK411.out⟩, ⟨by (with_reducible repeat (first | refine blk_drewN ?_ _ | refine blk_drew ?_ | refine blk_alloc ?_ _)); exact BK412.out⟩, ⟨by (with_reducible repeat (first | refine blk_drewN ?_ _ | refine blk_drew ?_ | refine blk_alloc ?_ _)); exact BK413.out⟩, ⟨by repeat (first | (with_reducible first | exact HB.out | apply below_alloc | apply pw_below_drewN | apply below_drew1 | refine below_set ?_ GE411.out | refine below_set ?_ GE412.out | refine below_set ?_ GE413.out | refine below_set ?_ GE418.out | refine below_set ?_ GE419.out) | exact HB.out)⟩⟩
                           ·
                            replace c158 := Bool.eq_false_iff.mpr c158
                            subst c158
                            have H1 : (some false) = some r := by rw [if_neg (show ¬ (false = true) by decide)] at H; exact H
                            clear H
                            have H := H1
                            clear H1
                            exact absurd ((Option.some.inj H).trans HR.out) (by decide)
                        ·
                         replace c123 := Bool.eq_false_iff.mpr c123
                         subst c123
                         have H1 : (horariumlaw15_PairNever.l0 kj118 a1 a2 a5 (wrap64 (x13_2 + 1)) a0_0 a0_1 a0_2 a3_0 a3_1 a3_2 a3_3 a3_4 a4_0 a4_1 a4_2 a4_3 a4_4) = some r := by rw [if_neg (show ¬ (false = true) by decide)] at H; exact H
                         clear H
                         have H := H1
                         clear H1
                         have H' := Aside0.mk H
                         clear H
                         have hnb177 := NB411_412.out
                         have hnc177 := NB412_411.out
                         have hnb178 := NB411_413.out
                         have hnc178 := NB413_411.out
                         have hnb179 := NB411_418.out
                         have hnc179 := NB418_411.out
                         have hnb180 := NB411_419.out
                         have hnc180 := NB419_411.out
                         have hcz181_0 : wc.cell? ⟨gb411, 0, none⟩ = some (.int .i64 a0_0) := (blk_cell BK411.out 0).trans rfl
                         have hcz181_1 : wc.cell? ⟨gb411, 1, none⟩ = some (.int .i64 a0_1) := (blk_cell BK411.out 1).trans rfl
                         have hcz181_2 : wc.cell? ⟨gb411, 2, none⟩ = some (.int .i64 a0_2) := (blk_cell BK411.out 2).trans rfl
                         have hfz181_0 := blk_frozen BK411.out 0
                         have hfz181_1 := blk_frozen BK411.out 1
                         have hfz181_2 := blk_frozen BK411.out 2
                         have hnb182 := NB418_412.out
                         have hnc182 := NB412_418.out
                         have hnb183 := NB418_413.out
                         have hnc183 := NB413_418.out
                         have hnb184 := NB418_419.out
                         have hnc184 := NB419_418.out
                         have hcz185_0 : wc.cell? ⟨gb418, 0, none⟩ = some (.int .u32 x419000_46) := (blk_cell BK418.out 0).trans rfl
                         have hcz185_1 : wc.cell? ⟨gb418, 1, none⟩ = some (.int .u8 x419001_46) := (blk_cell BK418.out 1).trans rfl
                         have hcz185_2 : wc.cell? ⟨gb418, 2, none⟩ = some (.int .i64 x419002_46) := (blk_cell BK418.out 2).trans rfl
                         have hcz185_3 : wc.cell? ⟨gb418, 3, none⟩ = some (.int .i64 x419003_46) := (blk_cell BK418.out 3).trans rfl
                         have hcz185_4 : wc.cell? ⟨gb418, 4, none⟩ = some (.int .i64 x419004_81) := (blk_cell BK418.out 4).trans rfl
                         have hfz185_0 := blk_frozen BK418.out 0
                         have hfz185_1 := blk_frozen BK418.out 1
                         have hfz185_2 := blk_frozen BK418.out 2
                         have hfz185_3 := blk_frozen BK418.out 3
                         have hfz185_4 := blk_frozen BK418.out 4
                         have hnb186 := NB419_412.out
                         have hnc186 := NB412_419.out
                         have hnb187 := NB419_413.out
                         have hnc187 := NB413_419.out
                         have hcz188_0 : wc.cell? ⟨gb419, 0, none⟩ = some (.int .u32 x420000_67) := (blk_cell BK419.out 0).trans rfl
                         have hcz188_1 : wc.cell? ⟨gb419, 1, none⟩ = some (.int .u8 x420001_67) := (blk_cell BK419.out 1).trans rfl
                         have hcz188_2 : wc.cell? ⟨gb419, 2, none⟩ = some (.int .i64 x420002_67) := (blk_cell BK419.out 2).trans rfl
                         have hcz188_3 : wc.cell? ⟨gb419, 3, none⟩ = some (.int .i64 x420003_67) := (blk_cell BK419.out 3).trans rfl
                         have hcz188_4 : wc.cell? ⟨gb419, 4, none⟩ = some (.int .i64 x420004_95) := (blk_cell BK419.out 4).trans rfl
                         have hfz188_0 := blk_frozen BK419.out 0
                         have hfz188_1 := blk_frozen BK419.out 1
                         have hfz188_2 := blk_frozen BK419.out 2
                         have hfz188_3 := blk_frozen BK419.out 3
                         have hfz188_4 := blk_frozen BK419.out 4
                         go_wp2_with (first | (go_at_call 15; (with_reducible refine (pair_Never.calls kj118 a0_0 a0_1 a0_2 a1 a2 x419000_46 x419001_46 x419002_46 x419003_46 x419004_81 x420000_67 x420001_67 x420002_67 x420003_67 x420004_95 x16_118 false _ A122.out).mono ?_); rintro e w189 ⟨rfl, hb⟩; have n0_ := Aside0.mk (blk_below (g := gb411) (o := .cells #[.int .i64 a0_0, .int .i64 a0_1, .int .i64 a0_2] 23 (0, 0)) (by (with_reducible repeat (first | refine blk_drewN ?_ _ | refine blk_drew ?_ | refine blk_alloc ?_ _)); exact BK411.out) hb); have n1_ := Aside0.mk (blk_below (g := gb412) (o := .cells #[.int .u32 a3_0, .int .u8 a3_1, .int .i64 a3_2, .int .i64 a3_3, .int .i64 a3_4] 28 (0, 0)) (by (with_reducible repeat (first | refine blk_drewN ?_ _ | refine blk_drew ?_ | refine blk_alloc ?_ _)); exact BK412.out) hb); have n2_ := Aside0.mk (blk_below (g := gb413) (o := .cells #[.int .u32 a4_0, .int .u8 a4_1, .int .i64 a4_2, .int .i64 a4_3, .int .i64 a4_4] 28 (0, 0)) (by (with_reducible repeat (first | refine blk_drewN ?_ _ | refine blk_drew ?_ | refine blk_alloc ?_ _)); exact BK413.out) hb); have n3_ := Aside0.mk (blk_below (g := gb418) (o := .cells #[.int .u32 x419000_46, .int .u8 x419001_46, .int .i64 x419002_46, .int .i64 x419003_46, .int .i64 x419004_81] 28 (0, 0)) (by (with_reducible repeat (first | refine blk_drewN ?_ _ | refine blk_drew ?_ | refine blk_alloc ?_ _)); exact BK418.out) hb); have n4_ := Aside0.mk (blk_below (g := gb419) (o := .cells #[.int .u32 x420000_67, .int .u8 x420001_67, .int .i64 x420002_67, .int .i64 x420003_67, .int .i64 x420004_95] 28 (0, 0)) (by (with_reducible repeat (first | refine blk_drewN ?_ _ | refine blk_drew ?_ | refine blk_alloc ?_ _)); exact BK419.out) hb); have n5_ := Aside0.mk (below_step (by repeat (first | (with_reducible first | exact HB.out | apply below_alloc | apply pw_below_drewN | apply below_drew1 | refine below_set ?_ GE411.out | refine below_set ?_ GE412.out | refine below_set ?_ GE413.out | refine below_set ?_ GE418.out | refine below_set ?_ GE419.out) | exact HB.out)) hb); clear BK411; clear BK412; clear BK413; clear BK418; clear BK419; clear HB; have BK411 := n0_; have BK412 := n1_; have BK413 := n2_; have BK418 := n3_; have BK419 := n4_; have HB := n5_; clear n0_ n1_ n2_ n3_ n4_ n5_; (try clear hb); (try clear hb2); (try clear hk); (try clear hi)))
                         go_roundg kj118
                         case measure => have := HJ6.out; have := HK2.out; have := HJ46.out; have := HJ67.out; have := HJ74.out; have := HJ81.out; have := HJ88.out; have := HJ95.out; have := HJ102.out; have := HJ118.out; omega
                         case rel => exact ⟨(wrap64 (x13_2 + 1)), (by first | rfl | (simp; done) | (simp [*]; done)), H', ⟨by have := HJ6.out; have := HK2.out; have := HJ46.out; have := HJ67.out; have := HJ74.out; have := HJ81.out; have := HJ88.out; have := HJ95.out; have := HJ102.out; have := HJ118.out; omega⟩, ⟨by (with_reducible repeat (first | refine blk_drewN ?_ _ | refine blk_drew ?_ | refine blk_alloc ?_ _)); exact BK411.out⟩, ⟨by (with_reducible repeat (first | refine blk_drewN ?_ _ | refine blk_drew ?_ | refine blk_alloc ?_ _)); exact BK412.out⟩, ⟨by (with_reducible repeat (first | refine blk_drewN ?_ _ | refine blk_drew ?_ | refine blk_alloc ?_ _)); exact BK413.out⟩, ⟨by repeat (first | (with_reducible first | exact HB.out | apply below_alloc | apply pw_below_drewN | apply below_drew1 | refine below_set ?_ GE411.out | refine below_set ?_ GE412.out | refine below_set ?_ GE413.out | refine below_set ?_ GE418.out | refine below_set ?_ GE419.out) | exact HB.out)⟩⟩
                       ·
                        rw [if_neg c121] at H
                        have c121b0 : decide (0 ≤ a5) = false := decide_eq_false c121
                        clear c121
                        have H' := Aside0.mk H
                        clear H
                        go_wp2
                        go_roundg kj118
                        case measure => have := HJ6.out; have := HK2.out; have := HJ46.out; have := HJ67.out; have := HJ74.out; have := HJ81.out; have := HJ88.out; have := HJ95.out; have := HJ102.out; have := HJ118.out; omega
                        case rel => exact ⟨(wrap64 (x13_2 + 1)), (by first | rfl | (simp; done) | (simp [*]; done)), H', ⟨by have := HJ6.out; have := HK2.out; have := HJ46.out; have := HJ67.out; have := HJ74.out; have := HJ81.out; have := HJ88.out; have := HJ95.out; have := HJ102.out; have := HJ118.out; omega⟩, ⟨by (with_reducible repeat (first | refine blk_drewN ?_ _ | refine blk_drew ?_ | refine blk_alloc ?_ _)); exact BK411.out⟩, ⟨by (with_reducible repeat (first | refine blk_drewN ?_ _ | refine blk_drew ?_ | refine blk_alloc ?_ _)); exact BK412.out⟩, ⟨by (with_reducible repeat (first | refine blk_drewN ?_ _ | refine blk_drew ?_ | refine blk_alloc ?_ _)); exact BK413.out⟩, ⟨by repeat (first | (with_reducible first | exact HB.out | apply below_alloc | apply pw_below_drewN | apply below_drew1 | refine below_set ?_ GE411.out | refine below_set ?_ GE412.out | refine below_set ?_ GE413.out | refine below_set ?_ GE418.out | refine below_set ?_ GE419.out) | exact HB.out)⟩⟩
      ·
       rw [if_neg c46] at H
       have c46b0 : decide (x13_2 < 16) = false := decide_eq_false c46
       clear c46
       have HC190 := Aside0.mk H
       clear H
       go_upto_region 20 with (fail)
       go_cut [17] (fun v17 wc => ∃ (kq : Nat) (x17_189 : Bool), v17 = .bool x17_189 ∧ Aside0 (horariumlaw15_PairNever.j10 kq a1 a2 a5 x17_189 a0_0 a0_1 a0_2 a3_0 a3_1 a3_2 a3_3 a3_4 a4_0 a4_1 a4_2 a4_3 a4_4 = some r) ∧ Aside0 (kq ≤ k2) ∧ Aside0 (wc.heap[gb411]? = some (.cells #[.int .i64 a0_0, .int .i64 a0_1, .int .i64 a0_2] 23 (0, 0))) ∧ Aside0 (wc.heap[gb412]? = some (.cells #[.int .u32 a3_0, .int .u8 a3_1, .int .i64 a3_2, .int .i64 a3_3, .int .i64 a3_4] 28 (0, 0))) ∧ Aside0 (wc.heap[gb413]? = some (.cells #[.int .u32 a4_0, .int .u8 a4_1, .int .i64 a4_2, .int .i64 a4_3, .int .i64 a4_4] 28 (0, 0))) ∧ Aside0 (Below w.heap.size w wc))
       case first =>
        have H := HC190.out
        clear HC190
        by_cases c191 : a3_4 = (-2)
        ·
         rw [if_pos c191] at H
         have c191b0 : (a3_4 == (-2)) = true := beq_iff_eq.mpr c191
         have c191b1 : (a3_4 != (-2)) = false := bne_eq_false_iff_eq.mpr c191
         clear c191
         (first | rw [c191b0] | (simp only [i64_w, i32_w]; rw [c191b0]) | skip)
         have H' := Aside0.mk H
         clear H
         have hnb192 := NB412_411.out
         have hnc192 := NB411_412.out
         have hnb193 := NB412_413.out
         have hnc193 := NB413_412.out
         have hcz194_0 : wr.cell? ⟨gb412, 0, none⟩ = some (.int .u32 a3_0) := (blk_cell BK412.out 0).trans rfl
         have hcz194_1 : wr.cell? ⟨gb412, 1, none⟩ = some (.int .u8 a3_1) := (blk_cell BK412.out 1).trans rfl
         have hcz194_2 : wr.cell? ⟨gb412, 2, none⟩ = some (.int .i64 a3_2) := (blk_cell BK412.out 2).trans rfl
         have hcz194_3 : wr.cell? ⟨gb412, 3, none⟩ = some (.int .i64 a3_3) := (blk_cell BK412.out 3).trans rfl
         have hcz194_4 : wr.cell? ⟨gb412, 4, none⟩ = some (.int .i64 a3_4) := (blk_cell BK412.out 4).trans rfl
         have hfz194_0 := blk_frozen BK412.out 0
         have hfz194_1 := blk_frozen BK412.out 1
         have hfz194_2 := blk_frozen BK412.out 2
         have hfz194_3 := blk_frozen BK412.out 3
         have hfz194_4 := blk_frozen BK412.out 4
         go_wp2
         go_meet
         case rel => exact ⟨_, (false), (by first | rfl | (simp; done) | (simp [*]; done)), H', ⟨by have := HJ6.out; have := HK2.out; first | omega | exact Nat.le_refl _⟩, ⟨by (with_reducible repeat (first | refine blk_drewN ?_ _ | refine blk_drew ?_ | refine blk_alloc ?_ _)); exact BK411.out⟩, ⟨by (with_reducible repeat (first | refine blk_drewN ?_ _ | refine blk_drew ?_ | refine blk_alloc ?_ _)); exact BK412.out⟩, ⟨by (with_reducible repeat (first | refine blk_drewN ?_ _ | refine blk_drew ?_ | refine blk_alloc ?_ _)); exact BK413.out⟩, ⟨by repeat (first | (with_reducible first | exact HB.out | apply below_alloc | apply pw_below_drewN | apply below_drew1 | refine below_set ?_ GE411.out | refine below_set ?_ GE412.out | refine below_set ?_ GE413.out) | exact HB.out)⟩⟩
        ·
         rw [if_neg c191] at H
         have c191b0 : (a3_4 == (-2)) = false := beq_eq_false_iff_ne.mpr c191
         have c191b1 : (a3_4 != (-2)) = true := bne_iff_ne.mpr c191
         (first | rw [c191b0] | (simp only [i64_w, i32_w]; rw [c191b0]) | skip)
         have H' := Aside0.mk H
         clear H
         have hnb195 := NB412_411.out
         have hnc195 := NB411_412.out
         have hnb196 := NB412_413.out
         have hnc196 := NB413_412.out
         have hcz197_0 : wr.cell? ⟨gb412, 0, none⟩ = some (.int .u32 a3_0) := (blk_cell BK412.out 0).trans rfl
         have hcz197_1 : wr.cell? ⟨gb412, 1, none⟩ = some (.int .u8 a3_1) := (blk_cell BK412.out 1).trans rfl
         have hcz197_2 : wr.cell? ⟨gb412, 2, none⟩ = some (.int .i64 a3_2) := (blk_cell BK412.out 2).trans rfl
         have hcz197_3 : wr.cell? ⟨gb412, 3, none⟩ = some (.int .i64 a3_3) := (blk_cell BK412.out 3).trans rfl
         have hcz197_4 : wr.cell? ⟨gb412, 4, none⟩ = some (.int .i64 a3_4) := (blk_cell BK412.out 4).trans rfl
         have hfz197_0 := blk_frozen BK412.out 0
         have hfz197_1 := blk_frozen BK412.out 1
         have hfz197_2 := blk_frozen BK412.out 2
         have hfz197_3 := blk_frozen BK412.out 3
         have hfz197_4 := blk_frozen BK412.out 4
         have hnb198 := NB413_411.out
         have hnc198 := NB411_413.out
         have hcz199_0 : wr.cell? ⟨gb413, 0, none⟩ = some (.int .u32 a4_0) := (blk_cell BK413.out 0).trans rfl
         have hcz199_1 : wr.cell? ⟨gb413, 1, none⟩ = some (.int .u8 a4_1) := (blk_cell BK413.out 1).trans rfl
         have hcz199_2 : wr.cell? ⟨gb413, 2, none⟩ = some (.int .i64 a4_2) := (blk_cell BK413.out 2).trans rfl
         have hcz199_3 : wr.cell? ⟨gb413, 3, none⟩ = some (.int .i64 a4_3) := (blk_cell BK413.out 3).trans rfl
         have hcz199_4 : wr.cell? ⟨gb413, 4, none⟩ = some (.int .i64 a4_4) := (blk_cell BK413.out 4).trans rfl
         have hfz199_0 := blk_frozen BK413.out 0
         have hfz199_1 := blk_frozen BK413.out 1
         have hfz199_2 := blk_frozen BK413.out 2
         have hfz199_3 := blk_frozen BK413.out 3
         have hfz199_4 := blk_frozen BK413.out 4
         go_wp2
         go_meet
         case rel => exact ⟨_, ((a4_4 != (-2))), (by first | rfl | (simp; done) | (simp [*]; done)), H', ⟨by have := HJ6.out; have := HK2.out; first | omega | exact Nat.le_refl _⟩, ⟨by (with_reducible repeat (first | refine blk_drewN ?_ _ | refine blk_drew ?_ | refine blk_alloc ?_ _)); exact BK411.out⟩, ⟨by (with_reducible repeat (first | refine blk_drewN ?_ _ | refine blk_drew ?_ | refine blk_alloc ?_ _)); exact BK412.out⟩, ⟨by (with_reducible repeat (first | refine blk_drewN ?_ _ | refine blk_drew ?_ | refine blk_alloc ?_ _)); exact BK413.out⟩, ⟨by repeat (first | (with_reducible first | exact HB.out | apply below_alloc | apply pw_below_drewN | apply below_drew1 | refine below_set ?_ GE411.out | refine below_set ?_ GE412.out | refine below_set ?_ GE413.out) | exact HB.out)⟩⟩
       case rest => as_aux_lemma =>
        clear HC190
        try clear c6
        try clear p6
        try clear c7
        try clear c8
        try clear c9
        try clear c10
        try clear c15
        try clear c18
        try clear c46
        try clear c46b0
        try clear c62
        try clear c62b0
        try clear c62b1
        try clear c63
        try clear c64
        try clear p64
        try clear c65
        try clear c66
        try clear c69
        try clear c69b0
        try clear c69b1
        try clear c70
        try clear c71
        try clear c72
        try clear c73
        try clear c76
        try clear c76b0
        try clear c76b1
        try clear c77
        try clear c78
        try clear c79
        try clear c80
        try clear c83
        try clear c84
        try clear c85
        try clear c86
        try clear c87
        try clear c90
        try clear c90b0
        try clear c90b1
        try clear c91
        try clear c92
        try clear c93
        try clear c94
        try clear c97
        try clear c98
        try clear c99
        try clear c100
        try clear c101
        try clear c104
        try clear c104b0
        try clear c105
        try clear c106
        try clear c107
        try clear c108
        try clear c110
        try clear c111
        try clear c112
        try clear c113
        try clear c115
        try clear c116
        try clear c117
        try clear c120
        try clear c121
        try clear c121b0
        try clear c123
        try clear c124
        try clear c124b0
        try clear c124b1
        try clear c125
        try clear c126
        try clear c127
        try clear c128
        try clear c130
        try clear c131
        try clear c132
        try clear c134
        try clear c135
        try clear c138
        try clear c140
        try clear c140b0
        try clear c140b1
        try clear c141
        try clear c142
        try clear c143
        try clear c144
        try clear c146
        try clear c147
        try clear c148
        try clear c150
        try clear c151
        try clear c154
        try clear c158
        try clear c159
        try clear c160
        try clear c161
        try clear c162
        try clear c164
        try clear c165
        try clear c166
        try clear c168
        try clear c169
        try clear c172
        try clear c177
        try clear c178
        try clear c179
        try clear c180
        try clear c182
        try clear c183
        try clear c184
        try clear c186
        try clear c187
        try clear c191
        try clear c191b0
        try clear c191b1
        try clear c192
        try clear c193
        try clear c195
        try clear c196
        try clear c198
        try clear hcz102_0
        try clear hcz102_1
        try clear hcz102_2
        try clear hcz102_3
        try clear hcz102_4
        try clear hcz109_0
        try clear hcz109_1
        try clear hcz109_2
        try clear hcz109_3
        try clear hcz109_4
        try clear hcz114_0
        try clear hcz114_1
        try clear hcz114_2
        try clear hcz114_3
        try clear hcz114_4
        try clear hcz118_0
        try clear hcz118_1
        try clear hcz118_2
        try clear hcz118_3
        try clear hcz118_4
        try clear hcz129_0
        try clear hcz129_1
        try clear hcz129_2
        try clear hcz133_0
        try clear hcz133_1
        try clear hcz133_2
        try clear hcz133_3
        try clear hcz133_4
        try clear hcz136_0
        try clear hcz136_1
        try clear hcz136_2
        try clear hcz136_3
        try clear hcz136_4
        try clear hcz139_0
        try clear hcz139_1
        try clear hcz139_2
        try clear hcz139_3
        try clear hcz139_4
        try clear hcz145_0
        try clear hcz145_1
        try clear hcz145_2
        try clear hcz149_0
        try clear hcz149_1
        try clear hcz149_2
        try clear hcz149_3
        try clear hcz149_4
        try clear hcz152_0
        try clear hcz152_1
        try clear hcz152_2
        try clear hcz152_3
        try clear hcz152_4
        try clear hcz155_0
        try clear hcz155_1
        try clear hcz155_2
        try clear hcz155_3
        try clear hcz155_4
        try clear hcz156_0
        try clear hcz156_1
        try clear hcz156_2
        try clear hcz156_3
        try clear hcz156_4
        try clear hcz163_0
        try clear hcz163_1
        try clear hcz163_2
        try clear hcz167_0
        try clear hcz167_1
        try clear hcz167_2
        try clear hcz167_3
        try clear hcz167_4
        try clear hcz170_0
        try clear hcz170_1
        try clear hcz170_2
        try clear hcz170_3
        try clear hcz170_4
        try clear hcz173_0
        try clear hcz173_1
        try clear hcz173_2
        try clear hcz173_3
        try clear hcz173_4
        try clear hcz174_0
        try clear hcz174_1
        try clear hcz174_2
        try clear hcz174_3
        try clear hcz174_4
        try clear hcz175_0
        try clear hcz175_1
        try clear hcz175_2
        try clear hcz181_0
        try clear hcz181_1
        try clear hcz181_2
        try clear hcz185_0
        try clear hcz185_1
        try clear hcz185_2
        try clear hcz185_3
        try clear hcz185_4
        try clear hcz188_0
        try clear hcz188_1
        try clear hcz188_2
        try clear hcz188_3
        try clear hcz188_4
        try clear hcz194_0
        try clear hcz194_1
        try clear hcz194_2
        try clear hcz194_3
        try clear hcz194_4
        try clear hcz197_0
        try clear hcz197_1
        try clear hcz197_2
        try clear hcz197_3
        try clear hcz197_4
        try clear hcz199_0
        try clear hcz199_1
        try clear hcz199_2
        try clear hcz199_3
        try clear hcz199_4
        try clear hcz67_0
        try clear hcz67_1
        try clear hcz67_2
        try clear hcz67_3
        try clear hcz67_4
        try clear hcz74_0
        try clear hcz74_1
        try clear hcz74_2
        try clear hcz74_3
        try clear hcz74_4
        try clear hcz81_0
        try clear hcz81_1
        try clear hcz81_2
        try clear hcz81_3
        try clear hcz81_4
        try clear hcz88_0
        try clear hcz88_1
        try clear hcz88_2
        try clear hcz88_3
        try clear hcz88_4
        try clear hcz95_0
        try clear hcz95_1
        try clear hcz95_2
        try clear hcz95_3
        try clear hcz95_4
        try clear hfz102_0
        try clear hfz102_1
        try clear hfz102_2
        try clear hfz102_3
        try clear hfz102_4
        try clear hfz109_0
        try clear hfz109_1
        try clear hfz109_2
        try clear hfz109_3
        try clear hfz109_4
        try clear hfz114_0
        try clear hfz114_1
        try clear hfz114_2
        try clear hfz114_3
        try clear hfz114_4
        try clear hfz118_0
        try clear hfz118_1
        try clear hfz118_2
        try clear hfz118_3
        try clear hfz118_4
        try clear hfz129_0
        try clear hfz129_1
        try clear hfz129_2
        try clear hfz133_0
        try clear hfz133_1
        try clear hfz133_2
        try clear hfz133_3
        try clear hfz133_4
        try clear hfz136_0
        try clear hfz136_1
        try clear hfz136_2
        try clear hfz136_3
        try clear hfz136_4
        try clear hfz139_0
        try clear hfz139_1
        try clear hfz139_2
        try clear hfz139_3
        try clear hfz139_4
        try clear hfz145_0
        try clear hfz145_1
        try clear hfz145_2
        try clear hfz149_0
        try clear hfz149_1
        try clear hfz149_2
        try clear hfz149_3
        try clear hfz149_4
        try clear hfz152_0
        try clear hfz152_1
        try clear hfz152_2
        try clear hfz152_3
        try clear hfz152_4
        try clear hfz155_0
        try clear hfz155_1
        try clear hfz155_2
        try clear hfz155_3
        try clear hfz155_4
        try clear hfz156_0
        try clear hfz156_1
        try clear hfz156_2
        try clear hfz156_3
        try clear hfz156_4
        try clear hfz163_0
        try clear hfz163_1
        try clear hfz163_2
        try clear hfz167_0
        try clear hfz167_1
        try clear hfz167_2
        try clear hfz167_3
        try clear hfz167_4
        try clear hfz170_0
        try clear hfz170_1
        try clear hfz170_2
        try clear hfz170_3
        try clear hfz170_4
        try clear hfz173_0
        try clear hfz173_1
        try clear hfz173_2
        try clear hfz173_3
        try clear hfz173_4
        try clear hfz174_0
        try clear hfz174_1
        try clear hfz174_2
        try clear hfz174_3
        try clear hfz174_4
        try clear hfz175_0
        try clear hfz175_1
        try clear hfz175_2
        try clear hfz181_0
        try clear hfz181_1
        try clear hfz181_2
        try clear hfz185_0
        try clear hfz185_1
        try clear hfz185_2
        try clear hfz185_3
        try clear hfz185_4
        try clear hfz188_0
        try clear hfz188_1
        try clear hfz188_2
        try clear hfz188_3
        try clear hfz188_4
        try clear hfz194_0
        try clear hfz194_1
        try clear hfz194_2
        try clear hfz194_3
        try clear hfz194_4
        try clear hfz197_0
        try clear hfz197_1
        try clear hfz197_2
        try clear hfz197_3
        try clear hfz197_4
        try clear hfz199_0
        try clear hfz199_1
        try clear hfz199_2
        try clear hfz199_3
        try clear hfz199_4
        try clear hfz67_0
        try clear hfz67_1
        try clear hfz67_2
        try clear hfz67_3
        try clear hfz67_4
        try clear hfz74_0
        try clear hfz74_1
        try clear hfz74_2
        try clear hfz74_3
        try clear hfz74_4
        try clear hfz81_0
        try clear hfz81_1
        try clear hfz81_2
        try clear hfz81_3
        try clear hfz81_4
        try clear hfz88_0
        try clear hfz88_1
        try clear hfz88_2
        try clear hfz88_3
        try clear hfz88_4
        try clear hfz95_0
        try clear hfz95_1
        try clear hfz95_2
        try clear hfz95_3
        try clear hfz95_4
        obtain ⟨kq, x17_189, rfl, HA, HJ189, BK411, BK412, BK413, HB⟩ := hcut
        cases kq with
        | zero => exact absurd HA.out (by simp [horariumlaw15_PairNever.j10])
        | succ kj189 =>
         have H := HA.out
         clear HA
         simp only [horariumlaw15_PairNever.j10] at H
         by_cases c200 : x17_189 = true
         ·
          subst c200
          have H1 : ((pair_Never.f kj189 a0_0 a0_1 a0_2 a1 a2 a3_0 a3_1 a3_2 a3_3 a3_4 a4_0 a4_1 a4_2 a4_3 a4_4 a5).bind fun t422 => ((pair_Known.f a1).bind fun t423 => (if t423 = true then ((pair_Holds.f kj189 a0_0 a0_1 a0_2 a1 a2 a3_0 a3_1 a3_2 a3_3 a3_4 a4_0 a4_1 a4_2 a4_3 a4_4 a5).bind fun t424 => (if (t422 == (!t424)) = true then ((horariumlaw15_heads.f kj189).bind fun t425 => (some t425)) else (if a1 = 14 then (if a5 < 0 then ((horariumlaw15_heads.f kj189).bind fun t426 => (some t426)) else (some false)) else (some false)))) else (if (t422 == false) = true then ((horariumlaw15_heads.f kj189).bind fun t427 => (some t427)) else (if a1 = 14 then (if a5 < 0 then ((horariumlaw15_heads.f kj189).bind fun t428 => (some t428)) else (some false)) else (some false)))))) = some r := by rw [if_pos rfl] at H; exact H
          clear H
          have H := H1
          clear H1
          replace H := Option.bind_eq_some_iff.mp H
          obtain ⟨t422, A2010, H⟩ := H
          replace H : ((pair_Known.f a1).bind fun t423 => (if t423 = true then ((pair_Holds.f kj189 a0_0 a0_1 a0_2 a1 a2 a3_0 a3_1 a3_2 a3_3 a3_4 a4_0 a4_1 a4_2 a4_3 a4_4 a5).bind fun t424 => (if (t422 == (!t424)) = true then ((horariumlaw15_heads.f kj189).bind fun t425 => (some t425)) else (if a1 = 14 then (if a5 < 0 then ((horariumlaw15_heads.f kj189).bind fun t426 => (some t426)) else (some false)) else (some false)))) else (if (t422 == false) = true then ((horariumlaw15_heads.f kj189).bind fun t427 => (some t427)) else (if a1 = 14 then (if a5 < 0 then ((horariumlaw15_heads.f kj189).bind fun t428 => (some t428)) else (some false)) else (some false))))) = some r := H
          have A201 := Aside0.mk A2010
          clear A2010
          replace H := Option.bind_eq_some_iff.mp H
          obtain ⟨t423, A2020, H⟩ := H
          replace H : (if t423 = true then ((pair_Holds.f kj189 a0_0 a0_1 a0_2 a1 a2 a3_0 a3_1 a3_2 a3_3 a3_4 a4_0 a4_1 a4_2 a4_3 a4_4 a5).bind fun t424 => (if (t422 == (!t424)) = true then ((horariumlaw15_heads.f kj189).bind fun t425 => (some t425)) else (if a1 = 14 then (if a5 < 0 then ((horariumlaw15_heads.f kj189).bind fun t426 => (some t426)) else (some false)) else (some false)))) else (if (t422 == false) = true then ((horariumlaw15_heads.f kj189).bind fun t427 => (some t427)) else (if a1 = 14 then (if a5 < 0 then ((horariumlaw15_heads.f kj189).bind fun t428 => (some t428)) else (some false)) else (some false)))) = some r := H
          have A202 := Aside0.mk A2020
          clear A2020
          by_cases c203 : t423 = true
          ·
           subst c203
           have H1 : ((pair_Holds.f kj189 a0_0 a0_1 a0_2 a1 a2 a3_0 a3_1 a3_2 a3_3 a3_4 a4_0 a4_1 a4_2 a4_3 a4_4 a5).bind fun t424 => (if (t422 == (!t424)) = true then ((horariumlaw15_heads.f kj189).bind fun t425 => (some t425)) else (if a1 = 14 then (if a5 < 0 then ((horariumlaw15_heads.f kj189).bind fun t426 => (some t426)) else (some false)) else (some false)))) = some r := by rw [if_pos rfl] at H; exact H
           clear H
           have H := H1
           clear H1
           replace H := Option.bind_eq_some_iff.mp H
           obtain ⟨t424, A2040, H⟩ := H
           replace H : (if (t422 == (!t424)) = true then ((horariumlaw15_heads.f kj189).bind fun t425 => (some t425)) else (if a1 = 14 then (if a5 < 0 then ((horariumlaw15_heads.f kj189).bind fun t426 => (some t426)) else (some false)) else (some false))) = some r := H
           have A204 := Aside0.mk A2040
           clear A2040
           by_cases c205 : (t422 == (!t424)) = true
           ·
            rw [if_pos c205] at H
            have c205b0 : (t422 == (!t424)) = true := c205
            (try (have c205b1 : decide (t422 = (!t424)) = true := by simpa using c205))
            (try (have c205b2 : (t422 == (!t424)) = true := by simpa using c205))
            clear c205
            replace H := Option.bind_eq_some_iff.mp H
            obtain ⟨t425, A2060, H⟩ := H
            replace H : (some t425) = some r := H
            have A206 := Aside0.mk A2060
            clear A2060
            obtain rfl := Option.some.inj H
            have hnb207 := NB411_412.out
            have hnc207 := NB412_411.out
            have hnb208 := NB411_413.out
            have hnc208 := NB413_411.out
            have hcz209_0 : wc.cell? ⟨gb411, 0, none⟩ = some (.int .i64 a0_0) := (blk_cell BK411.out 0).trans rfl
            have hcz209_1 : wc.cell? ⟨gb411, 1, none⟩ = some (.int .i64 a0_1) := (blk_cell BK411.out 1).trans rfl
            have hcz209_2 : wc.cell? ⟨gb411, 2, none⟩ = some (.int .i64 a0_2) := (blk_cell BK411.out 2).trans rfl
            have hfz209_0 := blk_frozen BK411.out 0
            have hfz209_1 := blk_frozen BK411.out 1
            have hfz209_2 := blk_frozen BK411.out 2
            have hnb210 := NB412_413.out
            have hnc210 := NB413_412.out
            have hcz211_0 : wc.cell? ⟨gb412, 0, none⟩ = some (.int .u32 a3_0) := (blk_cell BK412.out 0).trans rfl
            have hcz211_1 : wc.cell? ⟨gb412, 1, none⟩ = some (.int .u8 a3_1) := (blk_cell BK412.out 1).trans rfl
            have hcz211_2 : wc.cell? ⟨gb412, 2, none⟩ = some (.int .i64 a3_2) := (blk_cell BK412.out 2).trans rfl
            have hcz211_3 : wc.cell? ⟨gb412, 3, none⟩ = some (.int .i64 a3_3) := (blk_cell BK412.out 3).trans rfl
            have hcz211_4 : wc.cell? ⟨gb412, 4, none⟩ = some (.int .i64 a3_4) := (blk_cell BK412.out 4).trans rfl
            have hfz211_0 := blk_frozen BK412.out 0
            have hfz211_1 := blk_frozen BK412.out 1
            have hfz211_2 := blk_frozen BK412.out 2
            have hfz211_3 := blk_frozen BK412.out 3
            have hfz211_4 := blk_frozen BK412.out 4
            have hcz212_0 : wc.cell? ⟨gb413, 0, none⟩ = some (.int .u32 a4_0) := (blk_cell BK413.out 0).trans rfl
            have hcz212_1 : wc.cell? ⟨gb413, 1, none⟩ = some (.int .u8 a4_1) := (blk_cell BK413.out 1).trans rfl
            have hcz212_2 : wc.cell? ⟨gb413, 2, none⟩ = some (.int .i64 a4_2) := (blk_cell BK413.out 2).trans rfl
            have hcz212_3 : wc.cell? ⟨gb413, 3, none⟩ = some (.int .i64 a4_3) := (blk_cell BK413.out 3).trans rfl
            have hcz212_4 : wc.cell? ⟨gb413, 4, none⟩ = some (.int .i64 a4_4) := (blk_cell BK413.out 4).trans rfl
            have hfz212_0 := blk_frozen BK413.out 0
            have hfz212_1 := blk_frozen BK413.out 1
            have hfz212_2 := blk_frozen BK413.out 2
            have hfz212_3 := blk_frozen BK413.out 3
            have hfz212_4 := blk_frozen BK413.out 4
            go_wp2_with (first | (go_at_call 15; (with_reducible refine (pair_Never.calls kj189 a0_0 a0_1 a0_2 a1 a2 a3_0 a3_1 a3_2 a3_3 a3_4 a4_0 a4_1 a4_2 a4_3 a4_4 a5 t422 _ A201.out).mono ?_); rintro e w213 ⟨rfl, hb⟩; have n0_ := Aside0.mk (blk_below (g := gb411) (o := .cells #[.int .i64 a0_0, .int .i64 a0_1, .int .i64 a0_2] 23 (0, 0)) (by (with_reducible repeat (first | refine blk_drewN ?_ _ | refine blk_drew ?_ | refine blk_alloc ?_ _)); exact BK411.out) hb); have n1_ := Aside0.mk (blk_below (g := gb412) (o := .cells #[.int .u32 a3_0, .int .u8 a3_1, .int .i64 a3_2, .int .i64 a3_3, .int .i64 a3_4] 28 (0, 0)) (by (with_reducible repeat (first | refine blk_drewN ?_ _ | refine blk_drew ?_ | refine blk_alloc ?_ _)); exact BK412.out) hb); have n2_ := Aside0.mk (blk_below (g := gb413) (o := .cells #[.int .u32 a4_0, .int .u8 a4_1, .int .i64 a4_2, .int .i64 a4_3, .int .i64 a4_4] 28 (0, 0)) (by (with_reducible repeat (first | refine blk_drewN ?_ _ | refine blk_drew ?_ | refine blk_alloc ?_ _)); exact BK413.out) hb); have n3_ := Aside0.mk (below_step (by repeat (first | (with_reducible first | exact HB.out | apply below_alloc | apply pw_below_drewN | apply below_drew1 | refine below_set ?_ GE411.out | refine below_set ?_ GE412.out | refine below_set ?_ GE413.out) | exact HB.out)) hb); clear BK411; clear BK412; clear BK413; clear HB; have BK411 := n0_; have BK412 := n1_; have BK413 := n2_; have HB := n3_; clear n0_ n1_ n2_ n3_; (try clear hb); (try clear hb2); (try clear hk); (try clear hi)) | (go_at_call 16; (with_reducible refine (pair_Known.calls a1 true _ A202.out).mono ?_); rintro e w' ⟨rfl, ⟨nd, rfl⟩⟩; have hcz214_0 : w213.cell? ⟨gb411, 0, none⟩ = some (.int .i64 a0_0) := (blk_cell BK411.out 0).trans rfl; have hcz214_1 : w213.cell? ⟨gb411, 1, none⟩ = some (.int .i64 a0_1) := (blk_cell BK411.out 1).trans rfl; have hcz214_2 : w213.cell? ⟨gb411, 2, none⟩ = some (.int .i64 a0_2) := (blk_cell BK411.out 2).trans rfl; have hfz214_0 := blk_frozen BK411.out 0; have hfz214_1 := blk_frozen BK411.out 1; have hfz214_2 := blk_frozen BK411.out 2; have hcz215_0 : w213.cell? ⟨gb412, 0, none⟩ = some (.int .u32 a3_0) := (blk_cell BK412.out 0).trans rfl; have hcz215_1 : w213.cell? ⟨gb412, 1, none⟩ = some (.int .u8 a3_1) := (blk_cell BK412.out 1).trans rfl; have hcz215_2 : w213.cell? ⟨gb412, 2, none⟩ = some (.int .i64 a3_2) := (blk_cell BK412.out 2).trans rfl; have hcz215_3 : w213.cell? ⟨gb412, 3, none⟩ = some (.int .i64 a3_3) := (blk_cell BK412.out 3).trans rfl; have hcz215_4 : w213.cell? ⟨gb412, 4, none⟩ = some (.int .i64 a3_4) := (blk_cell BK412.out 4).trans rfl; have hfz215_0 := blk_frozen BK412.out 0; have hfz215_1 := blk_frozen BK412.out 1; have hfz215_2 := blk_frozen BK412.out 2; have hfz215_3 := blk_frozen BK412.out 3; have hfz215_4 := blk_frozen BK412.out 4; have hcz216_0 : w213.cell? ⟨gb413, 0, none⟩ = some (.int .u32 a4_0) := (blk_cell BK413.out 0).trans rfl; have hcz216_1 : w213.cell? ⟨gb413, 1, none⟩ = some (.int .u8 a4_1) := (blk_cell BK413.out 1).trans rfl; have hcz216_2 : w213.cell? ⟨gb413, 2, none⟩ = some (.int .i64 a4_2) := (blk_cell BK413.out 2).trans rfl; have hcz216_3 : w213.cell? ⟨gb413, 3, none⟩ = some (.int .i64 a4_3) := (blk_cell BK413.out 3).trans rfl; have hcz216_4 : w213.cell? ⟨gb413, 4, none⟩ = some (.int .i64 a4_4) := (blk_cell BK413.out 4).trans rfl; have hfz216_0 := blk_frozen BK413.out 0; have hfz216_1 := blk_frozen BK413.out 1; have hfz216_2 := blk_frozen BK413.out 2; have hfz216_3 := blk_frozen BK413.out 3; have hfz216_4 := blk_frozen BK413.out 4) | (go_at_call 10; (with_reducible refine (pair_Holds.calls kj189 a0_0 a0_1 a0_2 a1 a2 a3_0 a3_1 a3_2 a3_3 a3_4 a4_0 a4_1 a4_2 a4_3 a4_4 a5 t424 _ A204.out).mono ?_); rintro e w217 ⟨rfl, hb⟩; have n0_ := Aside0.mk (blk_below (g := gb411) (o := .cells #[.int .i64 a0_0, .int .i64 a0_1, .int .i64 a0_2] 23 (0, 0)) (by (with_reducible repeat (first | refine blk_drewN ?_ _ | refine blk_drew ?_ | refine blk_alloc ?_ _)); exact BK411.out) hb); have n1_ := Aside0.mk (blk_below (g := gb412) (o := .cells #[.int .u32 a3_0, .int .u8 a3_1, .int .i64 a3_2, .int .i64 a3_3, .int .i64 a3_4] 28 (0, 0)) (by (with_reducible repeat (first | refine blk_drewN ?_ _ | refine blk_drew ?_ | refine blk_alloc ?_ _)); exact BK412.out) hb); have n2_ := Aside0.mk (blk_below (g := gb413) (o := .cells #[.int .u32 a4_0, .int .u8 a4_1, .int .i64 a4_2, .int .i64 a4_3, .int .i64 a4_4] 28 (0, 0)) (by (with_reducible repeat (first | refine blk_drewN ?_ _ | refine blk_drew ?_ | refine blk_alloc ?_ _)); exact BK413.out) hb); have n3_ := Aside0.mk (below_step (by repeat (first | (with_reducible first | exact HB.out | apply below_alloc | apply pw_below_drewN | apply below_drew1 | refine below_set ?_ GE411.out | refine below_set ?_ GE412.out | refine below_set ?_ GE413.out) | exact HB.out)) hb); clear BK411; clear BK412; clear BK413; clear HB; have BK411 := n0_; have BK412 := n1_; have BK413 := n2_; have HB := n3_; clear n0_ n1_ n2_ n3_; (try clear hb); (try clear hb2); (try clear hk); (try clear hi)) | (go_at_call 11; (with_reducible refine (horariumlaw15_heads.calls kj189  t425 _ HR A206.out).mono ?_); rintro e w218 ⟨rfl, hb⟩; have n0_ := Aside0.mk (blk_below (g := gb411) (o := .cells #[.int .i64 a0_0, .int .i64 a0_1, .int .i64 a0_2] 23 (0, 0)) (by (with_reducible repeat (first | refine blk_drewN ?_ _ | refine blk_drew ?_ | refine blk_alloc ?_ _)); exact BK411.out) hb); have n1_ := Aside0.mk (blk_below (g := gb412) (o := .cells #[.int .u32 a3_0, .int .u8 a3_1, .int .i64 a3_2, .int .i64 a3_3, .int .i64 a3_4] 28 (0, 0)) (by (with_reducible repeat (first | refine blk_drewN ?_ _ | refine blk_drew ?_ | refine blk_alloc ?_ _)); exact BK412.out) hb); have n2_ := Aside0.mk (blk_below (g := gb413) (o := .cells #[.int .u32 a4_0, .int .u8 a4_1, .int .i64 a4_2, .int .i64 a4_3, .int .i64 a4_4] 28 (0, 0)) (by (with_reducible repeat (first | refine blk_drewN ?_ _ | refine blk_drew ?_ | refine blk_alloc ?_ _)); exact BK413.out) hb); have n3_ := Aside0.mk (below_step (by repeat (first | (with_reducible first | exact HB.out | apply below_alloc | apply pw_below_drewN | apply below_drew1 | refine below_set ?_ GE411.out | refine below_set ?_ GE412.out | refine below_set ?_ GE413.out) | exact HB.out)) hb); clear BK411; clear BK412; clear BK413; clear HB; have BK411 := n0_; have BK412 := n1_; have BK413 := n2_; have HB := n3_; clear n0_ n1_ n2_ n3_; (try clear hb); (try clear hb2); (try clear hk); (try clear hi)))
            go_ret
            exact ⟨by first | rfl | (simp [errW_none, errW_some] <;> rfl) | (simp [*, errW_none, errW_some] <;> rfl), by repeat (first | (with_reducible first | exact HB.out | apply below_alloc | apply pw_below_drewN | apply below_drew1 | refine below_set ?_ GE411.out | refine below_set ?_ GE412.out | refine below_set ?_ GE413.out) | exact HB.out)⟩
           ·
            rw [if_neg c205] at H
            have c205b0 : (t422 == (!t424)) = false := by simpa using c205
            (try (have c205b1 : decide (t422 = (!t424)) = false := by simpa using c205))
            (try (have c205b2 : (t422 == (!t424)) = false := by simpa using c205))
            (try (have c205b3 : ¬ (t422 = (!t424)) := by simpa using c205))
            clear c205
            by_cases c219 : a1 = 14
            ·
             rw [if_pos c219] at H
             have c219b0 : (a1 == 14) = true := beq_iff_eq.mpr c219
             have c219b1 : (a1 != 14) = false := bne_eq_false_iff_eq.mpr c219
             clear c219
             by_cases c220 : a5 < 0
             ·
              rw [if_pos c220] at H
              have c220b0 : decide (a5 < 0) = true := decide_eq_true c220
              clear c220
              replace H := Option.bind_eq_some_iff.mp H
              obtain ⟨t426, A2210, H⟩ := H
              replace H : (some t426) = some r := H
              have A221 := Aside0.mk A2210
              clear A2210
              obtain rfl := Option.some.inj H
              have hnb222 := NB411_412.out
              have hnc222 := NB412_411.out
              have hnb223 := NB411_413.out
              have hnc223 := NB413_411.out
              have hcz224_0 : wc.cell? ⟨gb411, 0, none⟩ = some (.int .i64 a0_0) := (blk_cell BK411.out 0).trans rfl
              have hcz224_1 : wc.cell? ⟨gb411, 1, none⟩ = some (.int .i64 a0_1) := (blk_cell BK411.out 1).trans rfl
              have hcz224_2 : wc.cell? ⟨gb411, 2, none⟩ = some (.int .i64 a0_2) := (blk_cell BK411.out 2).trans rfl
              have hfz224_0 := blk_frozen BK411.out 0
              have hfz224_1 := blk_frozen BK411.out 1
              have hfz224_2 := blk_frozen BK411.out 2
              have hnb225 := NB412_413.out
              have hnc225 := NB413_412.out
              have hcz226_0 : wc.cell? ⟨gb412, 0, none⟩ = some (.int .u32 a3_0) := (blk_cell BK412.out 0).trans rfl
              have hcz226_1 : wc.cell? ⟨gb412, 1, none⟩ = some (.int .u8 a3_1) := (blk_cell BK412.out 1).trans rfl
              have hcz226_2 : wc.cell? ⟨gb412, 2, none⟩ = some (.int .i64 a3_2) := (blk_cell BK412.out 2).trans rfl
              have hcz226_3 : wc.cell? ⟨gb412, 3, none⟩ = some (.int .i64 a3_3) := (blk_cell BK412.out 3).trans rfl
              have hcz226_4 : wc.cell? ⟨gb412, 4, none⟩ = some (.int .i64 a3_4) := (blk_cell BK412.out 4).trans rfl
              have hfz226_0 := blk_frozen BK412.out 0
              have hfz226_1 := blk_frozen BK412.out 1
              have hfz226_2 := blk_frozen BK412.out 2
              have hfz226_3 := blk_frozen BK412.out 3
              have hfz226_4 := blk_frozen BK412.out 4
              have hcz227_0 : wc.cell? ⟨gb413, 0, none⟩ = some (.int .u32 a4_0) := (blk_cell BK413.out 0).trans rfl
              have hcz227_1 : wc.cell? ⟨gb413, 1, none⟩ = some (.int .u8 a4_1) := (blk_cell BK413.out 1).trans rfl
              have hcz227_2 : wc.cell? ⟨gb413, 2, none⟩ = some (.int .i64 a4_2) := (blk_cell BK413.out 2).trans rfl
              have hcz227_3 : wc.cell? ⟨gb413, 3, none⟩ = some (.int .i64 a4_3) := (blk_cell BK413.out 3).trans rfl
              have hcz227_4 : wc.cell? ⟨gb413, 4, none⟩ = some (.int .i64 a4_4) := (blk_cell BK413.out 4).trans rfl
              have hfz227_0 := blk_frozen BK413.out 0
              have hfz227_1 := blk_frozen BK413.out 1
              have hfz227_2 := blk_frozen BK413.out 2
              have hfz227_3 := blk_frozen BK413.out 3
              have hfz227_4 := blk_frozen BK413.out 4
              go_wp2_with (first | (go_at_call 15; (with_reducible refine (pair_Never.calls kj189 a0_0 a0_1 a0_2 a1 a2 a3_0 a3_1 a3_2 a3_3 a3_4 a4_0 a4_1 a4_2 a4_3 a4_4 a5 t422 _ A201.out).mono ?_); rintro e w228 ⟨rfl, hb⟩; have n0_ := Aside0.mk (blk_below (g := gb411) (o := .cells #[.int .i64 a0_0, .int .i64 a0_1, .int .i64 a0_2] 23 (0, 0)) (by (with_reducible repeat (first | refine blk_drewN ?_ _ | refine blk_drew ?_ | refine blk_alloc ?_ _)); exact BK411.out) hb); have n1_ := Aside0.mk (blk_below (g := gb412) (o := .cells #[.int .u32 a3_0, .int .u8 a3_1, .int .i64 a3_2, .int .i64 a3_3, .int .i64 a3_4] 28 (0, 0)) (by (with_reducible repeat (first | refine blk_drewN ?_ _ | refine blk_drew ?_ | refine blk_alloc ?_ _)); exact BK412.out) hb); have n2_ := Aside0.mk (blk_below (g := gb413) (o := .cells #[.int .u32 a4_0, .int .u8 a4_1, .int .i64 a4_2, .int .i64 a4_3, .int .i64 a4_4] 28 (0, 0)) (by (with_reducible repeat (first | refine blk_drewN ?_ _ | refine blk_drew ?_ | refine blk_alloc ?_ _)); exact BK413.out) hb); have n3_ := Aside0.mk (below_step (by repeat (first | (with_reducible first | exact HB.out | apply below_alloc | apply pw_below_drewN | apply below_drew1 | refine below_set ?_ GE411.out | refine below_set ?_ GE412.out | refine below_set ?_ GE413.out) | exact HB.out)) hb); clear BK411; clear BK412; clear BK413; clear HB; have BK411 := n0_; have BK412 := n1_; have BK413 := n2_; have HB := n3_; clear n0_ n1_ n2_ n3_; (try clear hb); (try clear hb2); (try clear hk); (try clear hi)) | (go_at_call 16; (with_reducible refine (pair_Known.calls a1 true _ A202.out).mono ?_); rintro e w' ⟨rfl, ⟨nd, rfl⟩⟩; have hcz229_0 : w228.cell? ⟨gb411, 0, none⟩ = some (.int .i64 a0_0) := (blk_cell BK411.out 0).trans rfl; have hcz229_1 : w228.cell? ⟨gb411, 1, none⟩ = some (.int .i64 a0_1) := (blk_cell BK411.out 1).trans rfl; have hcz229_2 : w228.cell? ⟨gb411, 2, none⟩ = some (.int .i64 a0_2) := (blk_cell BK411.out 2).trans rfl; have hfz229_0 := blk_frozen BK411.out 0; have hfz229_1 := blk_frozen BK411.out 1; have hfz229_2 := blk_frozen BK411.out 2; have hcz230_0 : w228.cell? ⟨gb412, 0, none⟩ = some (.int .u32 a3_0) := (blk_cell BK412.out 0).trans rfl; have hcz230_1 : w228.cell? ⟨gb412, 1, none⟩ = some (.int .u8 a3_1) := (blk_cell BK412.out 1).trans rfl; have hcz230_2 : w228.cell? ⟨gb412, 2, none⟩ = some (.int .i64 a3_2) := (blk_cell BK412.out 2).trans rfl; have hcz230_3 : w228.cell? ⟨gb412, 3, none⟩ = some (.int .i64 a3_3) := (blk_cell BK412.out 3).trans rfl; have hcz230_4 : w228.cell? ⟨gb412, 4, none⟩ = some (.int .i64 a3_4) := (blk_cell BK412.out 4).trans rfl; have hfz230_0 := blk_frozen BK412.out 0; have hfz230_1 := blk_frozen BK412.out 1; have hfz230_2 := blk_frozen BK412.out 2; have hfz230_3 := blk_frozen BK412.out 3; have hfz230_4 := blk_frozen BK412.out 4; have hcz231_0 : w228.cell? ⟨gb413, 0, none⟩ = some (.int .u32 a4_0) := (blk_cell BK413.out 0).trans rfl; have hcz231_1 : w228.cell? ⟨gb413, 1, none⟩ = some (.int .u8 a4_1) := (blk_cell BK413.out 1).trans rfl; have hcz231_2 : w228.cell? ⟨gb413, 2, none⟩ = some (.int .i64 a4_2) := (blk_cell BK413.out 2).trans rfl; have hcz231_3 : w228.cell? ⟨gb413, 3, none⟩ = some (.int .i64 a4_3) := (blk_cell BK413.out 3).trans rfl; have hcz231_4 : w228.cell? ⟨gb413, 4, none⟩ = some (.int .i64 a4_4) := (blk_cell BK413.out 4).trans rfl; have hfz231_0 := blk_frozen BK413.out 0; have hfz231_1 := blk_frozen BK413.out 1; have hfz231_2 := blk_frozen BK413.out 2; have hfz231_3 := blk_frozen BK413.out 3; have hfz231_4 := blk_frozen BK413.out 4) | (go_at_call 10; (with_reducible refine (pair_Holds.calls kj189 a0_0 a0_1 a0_2 a1 a2 a3_0 a3_1 a3_2 a3_3 a3_4 a4_0 a4_1 a4_2 a4_3 a4_4 a5 t424 _ A204.out).mono ?_); rintro e w232 ⟨rfl, hb⟩; have n0_ := Aside0.mk (blk_below (g := gb411) (o := .cells #[.int .i64 a0_0, .int .i64 a0_1, .int .i64 a0_2] 23 (0, 0)) (by (with_reducible repeat (first | refine blk_drewN ?_ _ | refine blk_drew ?_ | refine blk_alloc ?_ _)); exact BK411.out) hb); have n1_ := Aside0.mk (blk_below (g := gb412) (o := .cells #[.int .u32 a3_0, .int .u8 a3_1, .int .i64 a3_2, .int .i64 a3_3, .int .i64 a3_4] 28 (0, 0)) (by (with_reducible repeat (first | refine blk_drewN ?_ _ | refine blk_drew ?_ | refine blk_alloc ?_ _)); exact BK412.out) hb); have n2_ := Aside0.mk (blk_below (g := gb413) (o := .cells #[.int .u32 a4_0, .int .u8 a4_1, .int .i64 a4_2, .int .i64 a4_3, .int .i64 a4_4] 28 (0, 0)) (by (with_reducible repeat (first | refine blk_drewN ?_ _ | refine blk_drew ?_ | refine blk_alloc ?_ _)); exact BK413.out) hb); have n3_ := Aside0.mk (below_step (by repeat (first | (with_reducible first | exact HB.out | apply below_alloc | apply pw_below_drewN | apply below_drew1 | refine below_set ?_ GE411.out | refine below_set ?_ GE412.out | refine below_set ?_ GE413.out) | exact HB.out)) hb); clear BK411; clear BK412; clear BK413; clear HB; have BK411 := n0_; have BK412 := n1_; have BK413 := n2_; have HB := n3_; clear n0_ n1_ n2_ n3_; (try clear hb); (try clear hb2); (try clear hk); (try clear hi)) | (go_at_call 11; (with_reducible refine (horariumlaw15_heads.calls kj189  t426 _ HR A221.out).mono ?_); rintro e w233 ⟨rfl, hb⟩; have n0_ := Aside0.mk (blk_below (g := gb411) (o := .cells #[.int .i64 a0_0, .int .i64 a0_1, .int .i64 a0_2] 23 (0, 0)) (by (with_reducible repeat (first | refine blk_drewN ?_ _ | refine blk_drew ?_ | refine blk_alloc ?_ _)); exact BK411.out) hb); have n1_ := Aside0.mk (blk_below (g := gb412) (o := .cells #[.int .u32 a3_0, .int .u8 a3_1, .int .i64 a3_2, .int .i64 a3_3, .int .i64 a3_4] 28 (0, 0)) (by (with_reducible repeat (first | refine blk_drewN ?_ _ | refine blk_drew ?_ | refine blk_alloc ?_ _)); exact BK412.out) hb); have n2_ := Aside0.mk (blk_below (g := gb413) (o := .cells #[.int .u32 a4_0, .int .u8 a4_1, .int .i64 a4_2, .int .i64 a4_3, .int .i64 a4_4] 28 (0, 0)) (by (with_reducible repeat (first | refine blk_drewN ?_ _ | refine blk_drew ?_ | refine blk_alloc ?_ _)); exact BK413.out) hb); have n3_ := Aside0.mk (below_step (by repeat (first | (with_reducible first | exact HB.out | apply below_alloc | apply pw_below_drewN | apply below_drew1 | refine below_set ?_ GE411.out | refine below_set ?_ GE412.out | refine below_set ?_ GE413.out) | exact HB.out)) hb); clear BK411; clear BK412; clear BK413; clear HB; have BK411 := n0_; have BK412 := n1_; have BK413 := n2_; have HB := n3_; clear n0_ n1_ n2_ n3_; (try clear hb); (try clear hb2); (try clear hk); (try clear hi)))
              go_ret
              exact ⟨by first | rfl | (simp [errW_none, errW_some] <;> rfl) | (simp [*, errW_none, errW_some] <;> rfl), by repeat (first | (with_reducible first | exact HB.out | apply below_alloc | apply pw_below_drewN | apply below_drew1 | refine below_set ?_ GE411.out | refine below_set ?_ GE412.out | refine below_set ?_ GE413.out) | exact HB.out)⟩
             ·
              rw [if_neg c220] at H
              have c220b0 : decide (a5 < 0) = false := decide_eq_false c220
              clear c220
              exact absurd ((Option.some.inj H).trans HR.out) (by decide)
            ·
             rw [if_neg c219] at H
             have c219b0 : (a1 == 14) = false := beq_eq_false_iff_ne.mpr c219
             have c219b1 : (a1 != 14) = true := bne_iff_ne.mpr c219
             exact absurd ((Option.some.inj H).trans HR.out) (by decide)
          ·
           replace c203 := Bool.eq_false_iff.mpr c203
           subst c203
           have H1 : (if (t422 == false) = true then ((horariumlaw15_heads.f kj189).bind fun t427 => (some t427)) else (if a1 = 14 then (if a5 < 0 then ((horariumlaw15_heads.f kj189).bind fun t428 => (some t428)) else (some false)) else (some false))) = some r := by rw [if_neg (show ¬ (false = true) by decide)] at H; exact H
           clear H
           have H := H1
           clear H1
           by_cases c234 : (t422 == false) = true
           ·
            rw [if_pos c234] at H
            have c234b0 : (t422 == false) = true := c234
            (try (have c234b1 : decide (t422 = false) = true := by simpa using c234))
            (try (have c234b2 : (t422 == false) = true := by simpa using c234))
            clear c234
            replace H := Option.bind_eq_some_iff.mp H
            obtain ⟨t427, A2350, H⟩ := H
            replace H : (some t427) = some r := H
            have A235 := Aside0.mk A2350
            clear A2350
            obtain rfl := Option.some.inj H
            have hnb236 := NB411_412.out
            have hnc236 := NB412_411.out
            have hnb237 := NB411_413.out
            have hnc237 := NB413_411.out
            have hcz238_0 : wc.cell? ⟨gb411, 0, none⟩ = some (.int .i64 a0_0) := (blk_cell BK411.out 0).trans rfl
            have hcz238_1 : wc.cell? ⟨gb411, 1, none⟩ = some (.int .i64 a0_1) := (blk_cell BK411.out 1).trans rfl
            have hcz238_2 : wc.cell? ⟨gb411, 2, none⟩ = some (.int .i64 a0_2) := (blk_cell BK411.out 2).trans rfl
            have hfz238_0 := blk_frozen BK411.out 0
            have hfz238_1 := blk_frozen BK411.out 1
            have hfz238_2 := blk_frozen BK411.out 2
            have hnb239 := NB412_413.out
            have hnc239 := NB413_412.out
            have hcz240_0 : wc.cell? ⟨gb412, 0, none⟩ = some (.int .u32 a3_0) := (blk_cell BK412.out 0).trans rfl
            have hcz240_1 : wc.cell? ⟨gb412, 1, none⟩ = some (.int .u8 a3_1) := (blk_cell BK412.out 1).trans rfl
            have hcz240_2 : wc.cell? ⟨gb412, 2, none⟩ = some (.int .i64 a3_2) := (blk_cell BK412.out 2).trans rfl
            have hcz240_3 : wc.cell? ⟨gb412, 3, none⟩ = some (.int .i64 a3_3) := (blk_cell BK412.out 3).trans rfl
            have hcz240_4 : wc.cell? ⟨gb412, 4, none⟩ = some (.int .i64 a3_4) := (blk_cell BK412.out 4).trans rfl
            have hfz240_0 := blk_frozen BK412.out 0
            have hfz240_1 := blk_frozen BK412.out 1
            have hfz240_2 := blk_frozen BK412.out 2
            have hfz240_3 := blk_frozen BK412.out 3
            have hfz240_4 := blk_frozen BK412.out 4
            have hcz241_0 : wc.cell? ⟨gb413, 0, none⟩ = some (.int .u32 a4_0) := (blk_cell BK413.out 0).trans rfl
            have hcz241_1 : wc.cell? ⟨gb413, 1, none⟩ = some (.int .u8 a4_1) := (blk_cell BK413.out 1).trans rfl
            have hcz241_2 : wc.cell? ⟨gb413, 2, none⟩ = some (.int .i64 a4_2) := (blk_cell BK413.out 2).trans rfl
            have hcz241_3 : wc.cell? ⟨gb413, 3, none⟩ = some (.int .i64 a4_3) := (blk_cell BK413.out 3).trans rfl
            have hcz241_4 : wc.cell? ⟨gb413, 4, none⟩ = some (.int .i64 a4_4) := (blk_cell BK413.out 4).trans rfl
            have hfz241_0 := blk_frozen BK413.out 0
            have hfz241_1 := blk_frozen BK413.out 1
            have hfz241_2 := blk_frozen BK413.out 2
            have hfz241_3 := blk_frozen BK413.out 3
            have hfz241_4 := blk_frozen BK413.out 4
            go_wp2_with (first | (go_at_call 15; (with_reducible refine (pair_Never.calls kj189 a0_0 a0_1 a0_2 a1 a2 a3_0 a3_1 a3_2 a3_3 a3_4 a4_0 a4_1 a4_2 a4_3 a4_4 a5 t422 _ A201.out).mono ?_); rintro e w242 ⟨rfl, hb⟩; have n0_ := Aside0.mk (blk_below (g := gb411) (o := .cells #[.int .i64 a0_0, .int .i64 a0_1, .int .i64 a0_2] 23 (0, 0)) (by (with_reducible repeat (first | refine blk_drewN ?_ _ | refine blk_drew ?_ | refine blk_alloc ?_ _)); exact BK411.out) hb); have n1_ := Aside0.mk (blk_below (g := gb412) (o := .cells #[.int .u32 a3_0, .int .u8 a3_1, .int .i64 a3_2, .int .i64 a3_3, .int .i64 a3_4] 28 (0, 0)) (by (with_reducible repeat (first | refine blk_drewN ?_ _ | refine blk_drew ?_ | refine blk_alloc ?_ _)); exact BK412.out) hb); have n2_ := Aside0.mk (blk_below (g := gb413) (o := .cells #[.int .u32 a4_0, .int .u8 a4_1, .int .i64 a4_2, .int .i64 a4_3, .int .i64 a4_4] 28 (0, 0)) (by (with_reducible repeat (first | refine blk_drewN ?_ _ | refine blk_drew ?_ | refine blk_alloc ?_ _)); exact BK413.out) hb); have n3_ := Aside0.mk (below_step (by repeat (first | (with_reducible first | exact HB.out | apply below_alloc | apply pw_below_drewN | apply below_drew1 | refine below_set ?_ GE411.out | refine below_set ?_ GE412.out | refine below_set ?_ GE413.out) | exact HB.out)) hb); clear BK411; clear BK412; clear BK413; clear HB; have BK411 := n0_; have BK412 := n1_; have BK413 := n2_; have HB := n3_; clear n0_ n1_ n2_ n3_; (try clear hb); (try clear hb2); (try clear hk); (try clear hi)) | (go_at_call 16; (with_reducible refine (pair_Known.calls a1 false _ A202.out).mono ?_); rintro e w' ⟨rfl, ⟨nd, rfl⟩⟩) | (go_at_call 11; (with_reducible refine (horariumlaw15_heads.calls kj189  t427 _ HR A235.out).mono ?_); rintro e w243 ⟨rfl, hb⟩; have n0_ := Aside0.mk (blk_below (g := gb411) (o := .cells #[.int .i64 a0_0, .int .i64 a0_1, .int .i64 a0_2] 23 (0, 0)) (by (with_reducible repeat (first | refine blk_drewN ?_ _ | refine blk_drew ?_ | refine blk_alloc ?_ _)); exact BK411.out) hb); have n1_ := Aside0.mk (blk_below (g := gb412) (o := .cells #[.int .u32 a3_0, .int .u8 a3_1, .int .i64 a3_2, .int .i64 a3_3, .int .i64 a3_4] 28 (0, 0)) (by (with_reducible repeat (first | refine blk_drewN ?_ _ | refine blk_drew ?_ | refine blk_alloc ?_ _)); exact BK412.out) hb); have n2_ := Aside0.mk (blk_below (g := gb413) (o := .cells #[.int .u32 a4_0, .int .u8 a4_1, .int .i64 a4_2, .int .i64 a4_3, .int .i64 a4_4] 28 (0, 0)) (by (with_reducible repeat (first | refine blk_drewN ?_ _ | refine blk_drew ?_ | refine blk_alloc ?_ _)); exact BK413.out) hb); have n3_ := Aside0.mk (below_step (by repeat (first | (with_reducible first | exact HB.out | apply below_alloc | apply pw_below_drewN | apply below_drew1 | refine below_set ?_ GE411.out | refine below_set ?_ GE412.out | refine below_set ?_ GE413.out) | exact HB.out)) hb); clear BK411; clear BK412; clear BK413; clear HB; have BK411 := n0_; have BK412 := n1_; have BK413 := n2_; have HB := n3_; clear n0_ n1_ n2_ n3_; (try clear hb); (try clear hb2); (try clear hk); (try clear hi)))
            go_ret
            exact ⟨by first | rfl | (simp [errW_none, errW_some] <;> rfl) | (simp [*, errW_none, errW_some] <;> rfl), by repeat (first | (with_reducible first | exact HB.out | apply below_alloc | apply pw_below_drewN | apply below_drew1 | refine below_set ?_ GE411.out | refine below_set ?_ GE412.out | refine below_set ?_ GE413.out) | exact HB.out)⟩
           ·
            rw [if_neg c234] at H
            have c234b0 : (t422 == false) = false := by simpa using c234
            (try (have c234b1 : decide (t422 = false) = false := by simpa using c234))
            (try (have c234b2 : (t422 == false) = false := by simpa using c234))
            (try (have c234b3 : ¬ (t422 = false) := by simpa using c234))
            clear c234
            by_cases c244 : a1 = 14
            ·
             rw [if_pos c244] at H
             have c244b0 : (a1 == 14) = true := beq_iff_eq.mpr c244
             have c244b1 : (a1 != 14) = false := bne_eq_false_iff_eq.mpr c244
             clear c244
             by_cases c245 : a5 < 0
             ·
              rw [if_pos c245] at H
              have c245b0 : decide (a5 < 0) = true := decide_eq_true c245
              clear c245
              replace H := Option.bind_eq_some_iff.mp H
              obtain ⟨t428, A2460, H⟩ := H
              replace H : (some t428) = some r := H
              have A246 := Aside0.mk A2460
              clear A2460
              obtain rfl := Option.some.inj H
              have hnb247 := NB411_412.out
              have hnc247 := NB412_411.out
              have hnb248 := NB411_413.out
              have hnc248 := NB413_411.out
              have hcz249_0 : wc.cell? ⟨gb411, 0, none⟩ = some (.int .i64 a0_0) := (blk_cell BK411.out 0).trans rfl
              have hcz249_1 : wc.cell? ⟨gb411, 1, none⟩ = some (.int .i64 a0_1) := (blk_cell BK411.out 1).trans rfl
              have hcz249_2 : wc.cell? ⟨gb411, 2, none⟩ = some (.int .i64 a0_2) := (blk_cell BK411.out 2).trans rfl
              have hfz249_0 := blk_frozen BK411.out 0
              have hfz249_1 := blk_frozen BK411.out 1
              have hfz249_2 := blk_frozen BK411.out 2
              have hnb250 := NB412_413.out
              have hnc250 := NB413_412.out
              have hcz251_0 : wc.cell? ⟨gb412, 0, none⟩ = some (.int .u32 a3_0) := (blk_cell BK412.out 0).trans rfl
              have hcz251_1 : wc.cell? ⟨gb412, 1, none⟩ = some (.int .u8 a3_1) := (blk_cell BK412.out 1).trans rfl
              have hcz251_2 : wc.cell? ⟨gb412, 2, none⟩ = some (.int .i64 a3_2) := (blk_cell BK412.out 2).trans rfl
              have hcz251_3 : wc.cell? ⟨gb412, 3, none⟩ = some (.int .i64 a3_3) := (blk_cell BK412.out 3).trans rfl
              have hcz251_4 : wc.cell? ⟨gb412, 4, none⟩ = some (.int .i64 a3_4) := (blk_cell BK412.out 4).trans rfl
              have hfz251_0 := blk_frozen BK412.out 0
              have hfz251_1 := blk_frozen BK412.out 1
              have hfz251_2 := blk_frozen BK412.out 2
              have hfz251_3 := blk_frozen BK412.out 3
              have hfz251_4 := blk_frozen BK412.out 4
              have hcz252_0 : wc.cell? ⟨gb413, 0, none⟩ = some (.int .u32 a4_0) := (blk_cell BK413.out 0).trans rfl
              have hcz252_1 : wc.cell? ⟨gb413, 1, none⟩ = some (.int .u8 a4_1) := (blk_cell BK413.out 1).trans rfl
              have hcz252_2 : wc.cell? ⟨gb413, 2, none⟩ = some (.int .i64 a4_2) := (blk_cell BK413.out 2).trans rfl
              have hcz252_3 : wc.cell? ⟨gb413, 3, none⟩ = some (.int .i64 a4_3) := (blk_cell BK413.out 3).trans rfl
              have hcz252_4 : wc.cell? ⟨gb413, 4, none⟩ = some (.int .i64 a4_4) := (blk_cell BK413.out 4).trans rfl
              have hfz252_0 := blk_frozen BK413.out 0
              have hfz252_1 := blk_frozen BK413.out 1
              have hfz252_2 := blk_frozen BK413.out 2
              have hfz252_3 := blk_frozen BK413.out 3
              have hfz252_4 := blk_frozen BK413.out 4
              go_wp2_with (first | (go_at_call 15; (with_reducible refine (pair_Never.calls kj189 a0_0 a0_1 a0_2 a1 a2 a3_0 a3_1 a3_2 a3_3 a3_4 a4_0 a4_1 a4_2 a4_3 a4_4 a5 t422 _ A201.out).mono ?_); rintro e w253 ⟨rfl, hb⟩; have n0_ := Aside0.mk (blk_below (g := gb411) (o := .cells #[.int .i64 a0_0, .int .i64 a0_1, .int .i64 a0_2] 23 (0, 0)) (by (with_reducible repeat (first | refine blk_drewN ?_ _ | refine blk_drew ?_ | refine blk_alloc ?_ _)); exact BK411.out) hb); have n1_ := Aside0.mk (blk_below (g := gb412) (o := .cells #[.int .u32 a3_0, .int .u8 a3_1, .int .i64 a3_2, .int .i64 a3_3, .int .i64 a3_4] 28 (0, 0)) (by (with_reducible repeat (first | refine blk_drewN ?_ _ | refine blk_drew ?_ | refine blk_alloc ?_ _)); exact BK412.out) hb); have n2_ := Aside0.mk (blk_below (g := gb413) (o := .cells #[.int .u32 a4_0, .int .u8 a4_1, .int .i64 a4_2, .int .i64 a4_3, .int .i64 a4_4] 28 (0, 0)) (by (with_reducible repeat (first | refine blk_drewN ?_ _ | refine blk_drew ?_ | refine blk_alloc ?_ _)); exact BK413.out) hb); have n3_ := Aside0.mk (below_step (by repeat (first | (with_reducible first | exact HB.out | apply below_alloc | apply pw_below_drewN | apply below_drew1 | refine below_set ?_ GE411.out | refine below_set ?_ GE412.out | refine below_set ?_ GE413.out) | exact HB.out)) hb); clear BK411; clear BK412; clear BK413; clear HB; have BK411 := n0_; have BK412 := n1_; have BK413 := n2_; have HB := n3_; clear n0_ n1_ n2_ n3_; (try clear hb); (try clear hb2); (try clear hk); (try clear hi)) | (go_at_call 16; (with_reducible refine (pair_Known.calls a1 false _ A202.out).mono ?_); rintro e w' ⟨rfl, ⟨nd, rfl⟩⟩) | (go_at_call 11; (with_reducible refine (horariumlaw15_heads.calls kj189  t428 _ HR A246.out).mono ?_); rintro e w254 ⟨rfl, hb⟩; have n0_ := Aside0.mk (blk_below (g := gb411) (o := .cells #[.int .i64 a0_0, .int .i64 a0_1, .int .i64 a0_2] 23 (0, 0)) (by (with_reducible repeat (first | refine blk_drewN ?_ _ | refine blk_drew ?_ | refine blk_alloc ?_ _)); exact BK411.out) hb); have n1_ := Aside0.mk (blk_below (g := gb412) (o := .cells #[.int .u32 a3_0, .int .u8 a3_1, .int .i64 a3_2, .int .i64 a3_3, .int .i64 a3_4] 28 (0, 0)) (by (with_reducible repeat (first | refine blk_drewN ?_ _ | refine blk_drew ?_ | refine blk_alloc ?_ _)); exact BK412.out) hb); have n2_ := Aside0.mk (blk_below (g := gb413) (o := .cells #[.int .u32 a4_0, .int .u8 a4_1, .int .i64 a4_2, .int .i64 a4_3, .int .i64 a4_4] 28 (0, 0)) (by (with_reducible repeat (first | refine blk_drewN ?_ _ | refine blk_drew ?_ | refine blk_alloc ?_ _)); exact BK413.out) hb); have n3_ := Aside0.mk (below_step (by repeat (first | (with_reducible first | exact HB.out | apply below_alloc | apply pw_below_drewN | apply below_drew1 | refine below_set ?_ GE411.out | refine below_set ?_ GE412.out | refine below_set ?_ GE413.out) | exact HB.out)) hb); clear BK411; clear BK412; clear BK413; clear HB; have BK411 := n0_; have BK412 := n1_; have BK413 := n2_; have HB := n3_; clear n0_ n1_ n2_ n3_; (try clear hb); (try clear hb2); (try clear hk); (try clear hi)))
              go_ret
              exact ⟨by first | rfl | (simp [errW_none, errW_some] <;> rfl) | (simp [*, errW_none, errW_some] <;> rfl), by repeat (first | (with_reducible first | exact HB.out | apply below_alloc | apply pw_below_drewN | apply below_drew1 | refine below_set ?_ GE411.out | refine below_set ?_ GE412.out | refine below_set ?_ GE413.out) | exact HB.out)⟩
             ·
              rw [if_neg c245] at H
              have c245b0 : decide (a5 < 0) = false := decide_eq_false c245
              clear c245
              exact absurd ((Option.some.inj H).trans HR.out) (by decide)
            ·
             rw [if_neg c244] at H
             have c244b0 : (a1 == 14) = false := beq_eq_false_iff_ne.mpr c244
             have c244b1 : (a1 != 14) = true := bne_iff_ne.mpr c244
             exact absurd ((Option.some.inj H).trans HR.out) (by decide)
         ·
          replace c200 := Bool.eq_false_iff.mpr c200
          subst c200
          have H1 : ((horariumlaw15_heads.f kj189).bind fun t429 => (some t429)) = some r := by rw [if_neg (show ¬ (false = true) by decide)] at H; exact H
          clear H
          have H := H1
          clear H1
          replace H := Option.bind_eq_some_iff.mp H
          obtain ⟨t429, A2550, H⟩ := H
          replace H : (some t429) = some r := H
          have A255 := Aside0.mk A2550
          clear A2550
          obtain rfl := Option.some.inj H
          go_wp2_with (first | (go_at_call 11; (with_reducible refine (horariumlaw15_heads.calls kj189  t429 _ HR A255.out).mono ?_); rintro e w256 ⟨rfl, hb⟩; have n0_ := Aside0.mk (blk_below (g := gb411) (o := .cells #[.int .i64 a0_0, .int .i64 a0_1, .int .i64 a0_2] 23 (0, 0)) (by (with_reducible repeat (first | refine blk_drewN ?_ _ | refine blk_drew ?_ | refine blk_alloc ?_ _)); exact BK411.out) hb); have n1_ := Aside0.mk (blk_below (g := gb412) (o := .cells #[.int .u32 a3_0, .int .u8 a3_1, .int .i64 a3_2, .int .i64 a3_3, .int .i64 a3_4] 28 (0, 0)) (by (with_reducible repeat (first | refine blk_drewN ?_ _ | refine blk_drew ?_ | refine blk_alloc ?_ _)); exact BK412.out) hb); have n2_ := Aside0.mk (blk_below (g := gb413) (o := .cells #[.int .u32 a4_0, .int .u8 a4_1, .int .i64 a4_2, .int .i64 a4_3, .int .i64 a4_4] 28 (0, 0)) (by (with_reducible repeat (first | refine blk_drewN ?_ _ | refine blk_drew ?_ | refine blk_alloc ?_ _)); exact BK413.out) hb); have n3_ := Aside0.mk (below_step (by repeat (first | (with_reducible first | exact HB.out | apply below_alloc | apply pw_below_drewN | apply below_drew1 | refine below_set ?_ GE411.out | refine below_set ?_ GE412.out | refine below_set ?_ GE413.out) | exact HB.out)) hb); clear BK411; clear BK412; clear BK413; clear HB; have BK411 := n0_; have BK412 := n1_; have BK413 := n2_; have HB := n3_; clear n0_ n1_ n2_ n3_; (try clear hb); (try clear hb2); (try clear hk); (try clear hi)))
          go_ret
          exact ⟨by first | rfl | (simp [errW_none, errW_some] <;> rfl) | (simp [*, errW_none, errW_some] <;> rfl), by repeat (first | (with_reducible first | exact HB.out | apply below_alloc | apply pw_below_drewN | apply below_drew1 | refine below_set ?_ GE411.out | refine below_set ?_ GE412.out | refine below_set ?_ GE413.out) | exact HB.out)⟩


end Go.Proofs.Ytddheiloodfkdaa.Q
