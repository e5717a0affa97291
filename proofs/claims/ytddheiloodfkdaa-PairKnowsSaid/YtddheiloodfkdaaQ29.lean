-- Written by a program of this claim's prover; Lean checks it.
import Derived.Test.YtddheiloodfkdaaQ0
import Derived.Test.YtddheiloodfkdaaQ16
import Derived.Test.YtddheiloodfkdaaQ26
import Derived.Test.YtddheiloodfkdaaQ28
namespace Go.Proofs.Ytddheiloodfkdaa.Q
open Go.RowKit Go.Proofs.YtddheiloodfkdaaW.PrintWords Go.Proofs.YtddheiloodfkdaaW.PrintLast Go.Proofs.YtddheiloodfkdaaW.PrintMore
attribute [local go_sem] max2_int min2_int max_two min_two max_three min_three max_four min_four   -- for this text's walks alone
set_option linter.unusedVariables false
set_option linter.unusedSimpArgs false

/-! ### horariumref15_Never: function 17 -/
mutual
def horariumref15_Never.j0 : Nat → Int → Int → Int → Bool → Int → Int → Int → Int → Int → Int → Int → Int → Int → Int → Int → Int → Int → Option (Bool)
  | 0, _, _, _, _, _, _, _, _, _, _, _, _, _, _, _, _, _ => none
  | k + 1, x1, x2, x5, x13, x345000, x345001, x345002, x346000, x346001, x346002, x346003, x346004, x347000, x347001, x347002, x347003, x347004 => (horariumref15_rooms.f x1).bind fun t348 => (if t348 = true then (if x13 = true then ((horariumref15_Holds.f k x345000 x345001 x345002 x1 x2 x346000 x346001 x346002 x346003 x346004 x347000 x347001 x347002 x347003 x347004 x5).bind fun t349 => (some (!t349))) else (if x1 = 10 then (if x346004 = (-1) then ((horariumref15_Holds.f k x345000 x345001 x345002 x1 x2 x346000 x346001 x346002 x346003 x346004 x347000 x347001 x347002 x347003 x347004 x5).bind fun t350 => (some (!t350))) else (if x347004 = (-1) then ((horariumref15_Holds.f k x345000 x345001 x345002 x1 x2 x346000 x346001 x346002 x346003 x346004 x347000 x347001 x347002 x347003 x347004 x5).bind fun t351 => (some (!t351))) else (some false))) else (some false))) else (if x346000 = 0 then (horariumref15_Never.j1 k x1 x2 x13 true x345000 x345001 x345002 x346000 x346001 x346002 x346003 x346004 x347000 x347001 x347002 x347003 x347004) else (if x347000 = 0 then (horariumref15_Never.j1 k x1 x2 x13 true x345000 x345001 x345002 x346000 x346001 x346002 x346003 x346004 x347000 x347001 x347002 x347003 x347004) else ((horariumref15_Holds.f k x345000 x345001 x345002 x1 x2 x346000 x346001 x346002 x346003 x346004 x347000 x347001 x347002 x347003 x347004 x5).bind fun t352 => (horariumref15_Never.j1 k x1 x2 x13 t352 x345000 x345001 x345002 x346000 x346001 x346002 x346003 x346004 x347000 x347001 x347002 x347003 x347004)))))
def horariumref15_Never.j1 : Nat → Int → Int → Bool → Bool → Int → Int → Int → Int → Int → Int → Int → Int → Int → Int → Int → Int → Int → Option (Bool)
  | 0, _, _, _, _, _, _, _, _, _, _, _, _, _, _, _, _, _ => none
  | k + 1, x1, x2, x13, x70, x345000, x345001, x345002, x346000, x346001, x346002, x346003, x346004, x347000, x347001, x347002, x347003, x347004 => if x70 = true then (if x1 = 14 then (if x346000 = 0 then (some false) else (if x347000 = 0 then (some false) else ((horariumref15_Holds.f k x345000 x345001 x345002 x1 x2 x346000 x346001 x346002 x346003 x346004 x347000 x347001 x347002 x347003 x347004 0).bind fun t353 => (some (!t353))))) else (some false)) else (if x1 = 14 then (if x13 = true then (some true) else ((horariumref15_Holds.f k x345000 x345001 x345002 x1 x2 x346000 x346001 x346002 x346003 x346004 x347000 x347001 x347002 x347003 x347004 0).bind fun t354 => (some (!t354)))) else (some true))
end
def horariumref15_Never.f (k : Nat) (a0_0 : Int) (a0_1 : Int) (a0_2 : Int) (a1 : Int) (a2 : Int) (a3_0 : Int) (a3_1 : Int) (a3_2 : Int) (a3_3 : Int) (a3_4 : Int) (a4_0 : Int) (a4_1 : Int) (a4_2 : Int) (a4_3 : Int) (a4_4 : Int) (a5 : Int) : Option (Bool) := (horariumref15_Known.f a1).bind fun t347 => (if t347 = true then (if a3_4 = (-2) then (horariumref15_Never.j0 k a1 a2 a5 false a0_0 a0_1 a0_2 a3_0 a3_1 a3_2 a3_3 a3_4 a4_0 a4_1 a4_2 a4_3 a4_4) else (horariumref15_Never.j0 k a1 a2 a5 (a4_4 != (-2)) a0_0 a0_1 a0_2 a3_0 a3_1 a3_2 a3_3 a3_4 a4_0 a4_1 a4_2 a4_3 a4_4)) else (some false))
theorem horariumref15_Never.mono_l : ∀ k, (∀ y0 y1 y2 y3 y4 y5 y6 y7 y8 y9 y10 y11 y12 y13 y14 y15 y16, LeO (horariumref15_Never.j0 k y0 y1 y2 y3 y4 y5 y6 y7 y8 y9 y10 y11 y12 y13 y14 y15 y16) (horariumref15_Never.j0 (k + 1) y0 y1 y2 y3 y4 y5 y6 y7 y8 y9 y10 y11 y12 y13 y14 y15 y16)) ∧ (∀ y0 y1 y2 y3 y4 y5 y6 y7 y8 y9 y10 y11 y12 y13 y14 y15 y16, LeO (horariumref15_Never.j1 k y0 y1 y2 y3 y4 y5 y6 y7 y8 y9 y10 y11 y12 y13 y14 y15 y16) (horariumref15_Never.j1 (k + 1) y0 y1 y2 y3 y4 y5 y6 y7 y8 y9 y10 y11 y12 y13 y14 y15 y16))
  | 0 => ⟨fun _ _ _ _ _ _ _ _ _ _ _ _ _ _ _ _ _ r h => by simp [horariumref15_Never.j0] at h, fun _ _ _ _ _ _ _ _ _ _ _ _ _ _ _ _ _ r h => by simp [horariumref15_Never.j1] at h⟩
  | k + 1 => by
    obtain ⟨ih0, ih1⟩ := horariumref15_Never.mono_l k
    refine ⟨?_, ?_⟩
    · intro y0 y1 y2 y3 y4 y5 y6 y7 y8 y9 y10 y11 y12 y13 y14 y15 y16
      unfold horariumref15_Never.j0
      repeat' first
      | (with_reducible exact ih0 _ _ _ _ _ _ _ _ _ _ _ _ _ _ _ _ _)
      | (with_reducible exact ih1 _ _ _ _ _ _ _ _ _ _ _ _ _ _ _ _ _)
      | (with_reducible exact horariumref15_Holds.mono _ _ _ _ _ _ _ _ _ _ _ _ _ _ _ _ _)
      | (with_reducible exact LeO.refl _)
      | (with_reducible exact LeO.none _)
      | (with_reducible refine LeO.ite ?_ ?_)
      | (with_reducible refine LeO.bind ?_ (fun _ => ?_))
      | exact ih0 _ _ _ _ _ _ _ _ _ _ _ _ _ _ _ _ _
      | exact ih1 _ _ _ _ _ _ _ _ _ _ _ _ _ _ _ _ _
      | exact horariumref15_Holds.mono _ _ _ _ _ _ _ _ _ _ _ _ _ _ _ _ _
      | exact LeO.none _
      | refine LeO.ite ?_ ?_
      | refine LeO.bind ?_ (fun _ => ?_)
    · intro y0 y1 y2 y3 y4 y5 y6 y7 y8 y9 y10 y11 y12 y13 y14 y15 y16
      unfold horariumref15_Never.j1
      repeat' first
      | (with_reducible exact ih0 _ _ _ _ _ _ _ _ _ _ _ _ _ _ _ _ _)
      | (with_reducible exact ih1 _ _ _ _ _ _ _ _ _ _ _ _ _ _ _ _ _)
      | (with_reducible exact horariumref15_Holds.mono _ _ _ _ _ _ _ _ _ _ _ _ _ _ _ _ _)
      | (with_reducible exact LeO.refl _)
      | (with_reducible exact LeO.none _)
      | (with_reducible refine LeO.ite ?_ ?_)
      | (with_reducible refine LeO.bind ?_ (fun _ => ?_))
      | exact ih0 _ _ _ _ _ _ _ _ _ _ _ _ _ _ _ _ _
      | exact ih1 _ _ _ _ _ _ _ _ _ _ _ _ _ _ _ _ _
      | exact horariumref15_Holds.mono _ _ _ _ _ _ _ _ _ _ _ _ _ _ _ _ _
      | exact LeO.none _
      | refine LeO.ite ?_ ?_
      | refine LeO.bind ?_ (fun _ => ?_)
theorem horariumref15_Never.mono : ∀ a0 a1 a2 a3 a4 a5 a6 a7 a8 a9 a10 a11 a12 a13 a14 a15 k, LeO (horariumref15_Never.f k a0 a1 a2 a3 a4 a5 a6 a7 a8 a9 a10 a11 a12 a13 a14 a15) (horariumref15_Never.f (k + 1) a0 a1 a2 a3 a4 a5 a6 a7 a8 a9 a10 a11 a12 a13 a14 a15) := by
  intro a0 a1 a2 a3 a4 a5 a6 a7 a8 a9 a10 a11 a12 a13 a14 a15 k
  obtain ⟨ih0, ih1⟩ := horariumref15_Never.mono_l k
  unfold horariumref15_Never.f
  repeat' first
      | (with_reducible exact ih0 _ _ _ _ _ _ _ _ _ _ _ _ _ _ _ _ _)
      | (with_reducible exact ih1 _ _ _ _ _ _ _ _ _ _ _ _ _ _ _ _ _)
      | (with_reducible exact horariumref15_Holds.mono _ _ _ _ _ _ _ _ _ _ _ _ _ _ _ _ _)
      | (with_reducible exact LeO.refl _)
      | (with_reducible exact LeO.none _)
      | (with_reducible refine LeO.ite ?_ ?_)
      | (with_reducible refine LeO.bind ?_ (fun _ => ?_))
      | exact ih0 _ _ _ _ _ _ _ _ _ _ _ _ _ _ _ _ _
      | exact ih1 _ _ _ _ _ _ _ _ _ _ _ _ _ _ _ _ _
      | exact horariumref15_Holds.mono _ _ _ _ _ _ _ _ _ _ _ _ _ _ _ _ _
      | exact LeO.none _
      | refine LeO.ite ?_ ?_
      | refine LeO.bind ?_ (fun _ => ?_)
set_option maxHeartbeats 8000000 in
set_option maxRecDepth 100000 in
theorem horariumref15_Never.calls (k : Nat) (a0_0 : Int) (a0_1 : Int) (a0_2 : Int) (a1 : Int) (a2 : Int) (a3_0 : Int) (a3_1 : Int) (a3_2 : Int) (a3_3 : Int) (a3_4 : Int) (a4_0 : Int) (a4_1 : Int) (a4_2 : Int) (a4_3 : Int) (a4_4 : Int) (a5 : Int) (r : Bool) (w : World) (h : horariumref15_Never.f k a0_0 a0_1 a0_2 a1 a2 a3_0 a3_1 a3_2 a3_3 a3_4 a4_0 a4_1 a4_2 a4_3 a4_4 a5 = some r) :
  Calls Try.prog 17 #[.agg #[.int .i64 a0_0, .int .i64 a0_1, .int .i64 a0_2], .int .i64 a1, .int .i64 a2, .agg #[.int .u32 a3_0, .int .u8 a3_1, .int .i64 a3_2, .int .i64 a3_3, .int .i64 a3_4], .agg #[.int .u32 a4_0, .int .u8 a4_1, .int .i64 a4_2, .int .i64 a4_3, .int .i64 a4_4], .int .i64 a5] w fun e w' => e = .returned (.bool r) ∧ Below w.heap.size w w' := by
 have hu23 := Try.underlying23
 have hu28 := Try.underlying28
 have HB := Aside0.mk (Below.refl w.heap.size w)
 have H : ((horariumref15_Known.f a1).bind fun t347 => (if t347 = true then (if a3_4 = (-2) then (horariumref15_Never.j0 k a1 a2 a5 false a0_0 a0_1 a0_2 a3_0 a3_1 a3_2 a3_3 a3_4 a4_0 a4_1 a4_2 a4_3 a4_4) else (horariumref15_Never.j0 k a1 a2 a5 (a4_4 != (-2)) a0_0 a0_1 a0_2 a3_0 a3_1 a3_2 a3_3 a3_4 a4_0 a4_1 a4_2 a4_3 a4_4)) else (some false))) = some r := h
 clear h
 replace H := Option.bind_eq_some_iff.mp H
 obtain ⟨t347, A70, H⟩ := H
 replace H : (if t347 = true then (if a3_4 = (-2) then (horariumref15_Never.j0 k a1 a2 a5 false a0_0 a0_1 a0_2 a3_0 a3_1 a3_2 a3_3 a3_4 a4_0 a4_1 a4_2 a4_3 a4_4) else (horariumref15_Never.j0 k a1 a2 a5 (a4_4 != (-2)) a0_0 a0_1 a0_2 a3_0 a3_1 a3_2 a3_3 a3_4 a4_0 a4_1 a4_2 a4_3 a4_4)) else (some false)) = some r := H
 have A7 := Aside0.mk A70
 clear A70
 have HC0_ := Aside0.mk H
 clear H
 go_enter Try.func17, Try.ntmps17
 go_upto_region 1 with (first | ((with_reducible refine gate_dst (N := 6) rfl ?_); refine box_event ?hg (N := 6) ?hd (cs := #[.int .i64 a0_0, .int .i64 a0_1, .int .i64 a0_2]) (t := 23) ?hr ?_; (case hd => rfl); (case hg => rfl); (case hr => first | (go_simp; done) | (go_simp; rfl)); intro gb344 hg w10 hbox hb; have n0_ := Aside0.mk (below_step (by repeat (first | (with_reducible first | exact HB.out | apply below_alloc | apply pw_below_drewN | apply below_drew1) | exact HB.out)) hb); have n1_ := Aside0.mk (hbox); have n2_ := Aside0.mk ((by rw [hg]; exact (below_size (by repeat (first | (with_reducible first | exact HB.out | apply below_alloc | apply pw_below_drewN | apply below_drew1) | exact HB.out))) : w.heap.size ≤ gb344)); have n3_ := Aside0.mk ((by rw [hg]; exact (below_size (by repeat (first | (with_reducible first | exact HB.out | apply below_alloc | apply pw_below_drewN | apply below_drew1) | exact HB.out))) : w.heap.size ≤ gb344)); clear HB; have HB := n0_; have BK344 := n1_; have GW344 := n2_; have GE344 := n3_; clear n0_ n1_ n2_ n3_; clear hb hbox hg) | ((with_reducible refine gate_dst (N := 9) rfl ?_); refine box_event ?hg (N := 9) ?hd (cs := #[.int .u32 a3_0, .int .u8 a3_1, .int .i64 a3_2, .int .i64 a3_3, .int .i64 a3_4]) (t := 28) ?hr ?_; (case hd => rfl); (case hg => rfl); (case hr => first | (go_simp; done) | (go_simp; rfl)); intro gb345 hg w11 hbox hb; have n0_ := Aside0.mk (blk_below (g := gb344) (o := .cells #[.int .i64 a0_0, .int .i64 a0_1, .int .i64 a0_2] 23 (0, 0)) (by (with_reducible repeat (first | refine blk_drewN ?_ _ | refine blk_drew ?_ | refine blk_alloc ?_ _)); exact BK344.out) hb); have n1_ := Aside0.mk (below_step (by repeat (first | (with_reducible first | exact HB.out | apply below_alloc | apply pw_below_drewN | apply below_drew1 | refine below_set ?_ GE344.out) | exact HB.out)) hb); have n2_ := Aside0.mk (hbox); have n3_ := Aside0.mk ((by rw [hg]; exact (below_size (by repeat (first | (with_reducible first | exact HB.out | apply below_alloc | apply pw_below_drewN | apply below_drew1 | refine below_set ?_ GE344.out) | exact HB.out))) : w.heap.size ≤ gb345)); have n4_ := Aside0.mk ((by rw [hg]; exact (below_size (by repeat (first | (with_reducible first | exact HB.out | apply below_alloc | apply pw_below_drewN | apply below_drew1 | refine below_set ?_ GE344.out) | exact HB.out))) : w.heap.size ≤ gb345)); have n5_ := Aside0.mk ((by rw [hg]; exact Nat.ne_of_lt (blk_lt (g := gb344) (o := .cells #[.int .i64 a0_0, .int .i64 a0_1, .int .i64 a0_2] 23 (0, 0)) (by (with_reducible repeat (first | refine blk_drewN ?_ _ | refine blk_drew ?_ | refine blk_alloc ?_ _)); exact BK344.out)) : gb344 ≠ gb345)); have n6_ := Aside0.mk ((by rw [hg]; exact Nat.ne_of_gt (blk_lt (g := gb344) (o := .cells #[.int .i64 a0_0, .int .i64 a0_1, .int .i64 a0_2] 23 (0, 0)) (by (with_reducible repeat (first | refine blk_drewN ?_ _ | refine blk_drew ?_ | refine blk_alloc ?_ _)); exact BK344.out)) : gb345 ≠ gb344)); clear BK344; clear HB; have BK344 := n0_; have HB := n1_; have BK345 := n2_; have GW345 := n3_; have GE345 := n4_; have NB344_345 := n5_; have NB345_344 := n6_; clear n0_ n1_ n2_ n3_ n4_ n5_ n6_; clear hb hbox hg) | ((with_reducible refine gate_dst (N := 10) rfl ?_); refine box_event ?hg (N := 10) ?hd (cs := #[.int .u32 a4_0, .int .u8 a4_1, .int .i64 a4_2, .int .i64 a4_3, .int .i64 a4_4]) (t := 28) ?hr ?_; (case hd => rfl); (case hg => rfl); (case hr => first | (go_simp; done) | (go_simp; rfl)); intro gb346 hg w12 hbox hb; have n0_ := Aside0.mk (blk_below (g := gb344) (o := .cells #[.int .i64 a0_0, .int .i64 a0_1, .int .i64 a0_2] 23 (0, 0)) (by (with_reducible repeat (first | refine blk_drewN ?_ _ | refine blk_drew ?_ | refine blk_alloc ?_ _)); exact BK344.out) hb); have n1_ := Aside0.mk (blk_below (g := gb345) (o := .cells #[.int .u32 a3_0, .int .u8 a3_1, .int .i64 a3_2, .int .i64 a3_3, .int .i64 a3_4] 28 (0, 0)) (by (with_reducible repeat (first | refine blk_drewN ?_ _ | refine blk_drew ?_ | refine blk_alloc ?_ _)); exact BK345.out) hb); have n2_ := Aside0.mk (below_step (by repeat (first | (with_reducible first | exact HB.out | apply below_alloc | apply pw_below_drewN | apply below_drew1 | refine below_set ?_ GE344.out | refine below_set ?_ GE345.out) | exact HB.out)) hb); have n3_ := Aside0.mk (hbox); have n4_ := Aside0.mk ((by rw [hg]; exact (below_size (by repeat (first | (with_reducible first | exact HB.out | apply below_alloc | apply pw_below_drewN | apply below_drew1 | refine below_set ?_ GE344.out | refine below_set ?_ GE345.out) | exact HB.out))) : w.heap.size ≤ gb346)); have n5_ := Aside0.mk ((by rw [hg]; exact (below_size (by repeat (first | (with_reducible first | exact HB.out | apply below_alloc | apply pw_below_drewN | apply below_drew1 | refine below_set ?_ GE344.out | refine below_set ?_ GE345.out) | exact HB.out))) : w.heap.size ≤ gb346)); have n6_ := Aside0.mk ((by rw [hg]; exact Nat.ne_of_lt (blk_lt (g := gb344) (o := .cells #[.int .i64 a0_0, .int .i64 a0_1, .int .i64 a0_2] 23 (0, 0)) (by (with_reducible repeat (first | refine blk_drewN ?_ _ | refine blk_drew ?_ | refine blk_alloc ?_ _)); exact BK344.out)) : gb344 ≠ gb346)); have n7_ := Aside0.mk ((by rw [hg]; exact Nat.ne_of_gt (blk_lt (g := gb344) (o := .cells #[.int .i64 a0_0, .int .i64 a0_1, .int .i64 a0_2] 23 (0, 0)) (by (with_reducible repeat (first | refine blk_drewN ?_ _ | refine blk_drew ?_ | refine blk_alloc ?_ _)); exact BK344.out)) : gb346 ≠ gb344)); have n8_ := Aside0.mk ((by rw [hg]; exact Nat.ne_of_lt (blk_lt (g := gb345) (o := .cells #[.int .u32 a3_0, .int .u8 a3_1, .int .i64 a3_2, .int .i64 a3_3, .int .i64 a3_4] 28 (0, 0)) (by (with_reducible repeat (first | refine blk_drewN ?_ _ | refine blk_drew ?_ | refine blk_alloc ?_ _)); exact BK345.out)) : gb345 ≠ gb346)); have n9_ := Aside0.mk ((by rw [hg]; exact Nat.ne_of_gt (blk_lt (g := gb345) (o := .cells #[.int .u32 a3_0, .int .u8 a3_1, .int .i64 a3_2, .int .i64 a3_3, .int .i64 a3_4] 28 (0, 0)) (by (with_reducible repeat (first | refine blk_drewN ?_ _ | refine blk_drew ?_ | refine blk_alloc ?_ _)); exact BK345.out)) : gb346 ≠ gb345)); clear BK344; clear BK345; clear HB; have BK344 := n0_; have BK345 := n1_; have HB := n2_; have BK346 := n3_; have GW346 := n4_; have GE346 := n5_; have NB344_346 := n6_; have NB346_344 := n7_; have NB345_346 := n8_; have NB346_345 := n9_; clear n0_ n1_ n2_ n3_ n4_ n5_ n6_ n7_ n8_ n9_; clear hb hbox hg))
 have H := HC0_.out
 clear HC0_
 by_cases c8 : t347 = true
 ·
  subst c8
  have H1 : (if a3_4 = (-2) then (horariumref15_Never.j0 k a1 a2 a5 false a0_0 a0_1 a0_2 a3_0 a3_1 a3_2 a3_3 a3_4 a4_0 a4_1 a4_2 a4_3 a4_4) else (horariumref15_Never.j0 k a1 a2 a5 (a4_4 != (-2)) a0_0 a0_1 a0_2 a3_0 a3_1 a3_2 a3_3 a3_4 a4_0 a4_1 a4_2 a4_3 a4_4)) = some r := by rw [if_pos rfl] at H; exact H
  clear H
  have H := H1
  clear H1
  have HC9 := Aside0.mk H
  clear H
  go_upto_region 3 with (first | ((with_reducible refine gate_callee (f := 22) rfl ?_); refine goesL_ (some 15) rfl rfl Try.func22 (by kernel_rfl) rfl #[.int .i64 a1] rfl (by (try simp only [List.map_toArray, List.map_cons, List.map_nil]); first | done | rfl | (simp only [List.length_drop, List.length_take]; rfl)) ?_; (with_reducible refine (horariumref15_Known.calls a1 true _ A7.out).mono ?_); rintro e w' ⟨rfl, ⟨nd, rfl⟩⟩; refine ⟨_, rfl, ?_⟩))
  (try simp only [Act.put, List.setIfInBounds_toArray, List.set_cons_zero, List.set_cons_succ])
  go_cut [13] (fun v13 wc => ∃ (kq : Nat) (x13_8 : Bool), v13 = .bool x13_8 ∧ Aside0 (horariumref15_Never.j0 kq a1 a2 a5 x13_8 a0_0 a0_1 a0_2 a3_0 a3_1 a3_2 a3_3 a3_4 a4_0 a4_1 a4_2 a4_3 a4_4 = some r) ∧ Aside0 (kq ≤ k) ∧ Aside0 (wc.heap[gb344]? = some (.cells #[.int .i64 a0_0, .int .i64 a0_1, .int .i64 a0_2] 23 (0, 0))) ∧ Aside0 (wc.heap[gb345]? = some (.cells #[.int .u32 a3_0, .int .u8 a3_1, .int .i64 a3_2, .int .i64 a3_3, .int .i64 a3_4] 28 (0, 0))) ∧ Aside0 (wc.heap[gb346]? = some (.cells #[.int .u32 a4_0, .int .u8 a4_1, .int .i64 a4_2, .int .i64 a4_3, .int .i64 a4_4] 28 (0, 0))) ∧ Aside0 (Below w.heap.size w wc))
  case first =>
   have H := HC9.out
   clear HC9
   by_cases c13 : a3_4 = (-2)
   ·
    rw [if_pos c13] at H
    have c13b0 : (a3_4 == (-2)) = true := beq_iff_eq.mpr c13
    have c13b1 : (a3_4 != (-2)) = false := bne_eq_false_iff_eq.mpr c13
    clear c13
    (first | rw [c13b0] | (simp only [i64_w, i32_w]; rw [c13b0]) | skip)
    have H' := Aside0.mk H
    clear H
    have hnb14 := NB345_344.out
    have hnc14 := NB344_345.out
    have hnb15 := NB345_346.out
    have hnc15 := NB346_345.out
    have hcz16_0 : w12.cell? ⟨gb345, 0, none⟩ = some (.int .u32 a3_0) := (blk_cell BK345.out 0).trans rfl
    have hcz16_1 : w12.cell? ⟨gb345, 1, none⟩ = some (.int .u8 a3_1) := (blk_cell BK345.out 1).trans rfl
    have hcz16_2 : w12.cell? ⟨gb345, 2, none⟩ = some (.int .i64 a3_2) := (blk_cell BK345.out 2).trans rfl
    have hcz16_3 : w12.cell? ⟨gb345, 3, none⟩ = some (.int .i64 a3_3) := (blk_cell BK345.out 3).trans rfl
    have hcz16_4 : w12.cell? ⟨gb345, 4, none⟩ = some (.int .i64 a3_4) := (blk_cell BK345.out 4).trans rfl
    have hfz16_0 := blk_frozen BK345.out 0
    have hfz16_1 := blk_frozen BK345.out 1
    have hfz16_2 := blk_frozen BK345.out 2
    have hfz16_3 := blk_frozen BK345.out 3
    have hfz16_4 := blk_frozen BK345.out 4
    go_wp2
    go_meet
    case rel => exact ⟨_, (false), (by first | rfl | (simp; done) | (simp [*]; done)), H', ⟨by first | omega | exact Nat.le_refl _⟩, ⟨by (with_reducible repeat (first | refine blk_drewN ?_ _ | refine blk_drew ?_ | refine blk_alloc ?_ _)); exact BK344.out⟩, ⟨by (with_reducible repeat (first | refine blk_drewN ?_ _ | refine blk_drew ?_ | refine blk_alloc ?_ _)); exact BK345.out⟩, ⟨by (with_reducible repeat (first | refine blk_drewN ?_ _ | refine blk_drew ?_ | refine blk_alloc ?_ _)); exact BK346.out⟩, ⟨by repeat (first | (with_reducible first | exact HB.out | apply below_alloc | apply pw_below_drewN | apply below_drew1 | refine below_set ?_ GE344.out | refine below_set ?_ GE345.out | refine below_set ?_ GE346.out) | exact HB.out)⟩⟩
   ·
    rw [if_neg c13] at H
    have c13b0 : (a3_4 == (-2)) = false := beq_eq_false_iff_ne.mpr c13
    have c13b1 : (a3_4 != (-2)) = true := bne_iff_ne.mpr c13
    (first | rw [c13b0] | (simp only [i64_w, i32_w]; rw [c13b0]) | skip)
    have H' := Aside0.mk H
    clear H
    have hnb17 := NB345_344.out
    have hnc17 := NB344_345.out
    have hnb18 := NB345_346.out
    have hnc18 := NB346_345.out
    have hcz19_0 : w12.cell? ⟨gb345, 0, none⟩ = some (.int .u32 a3_0) := (blk_cell BK345.out 0).trans rfl
    have hcz19_1 : w12.cell? ⟨gb345, 1, none⟩ = some (.int .u8 a3_1) := (blk_cell BK345.out 1).trans rfl
    have hcz19_2 : w12.cell? ⟨gb345, 2, none⟩ = some (.int .i64 a3_2) := (blk_cell BK345.out 2).trans rfl
    have hcz19_3 : w12.cell? ⟨gb345, 3, none⟩ = some (.int .i64 a3_3) := (blk_cell BK345.out 3).trans rfl
    have hcz19_4 : w12.cell? ⟨gb345, 4, none⟩ = some (.int .i64 a3_4) := (blk_cell BK345.out 4).trans rfl
    have hfz19_0 := blk_frozen BK345.out 0
    have hfz19_1 := blk_frozen BK345.out 1
    have hfz19_2 := blk_frozen BK345.out 2
    have hfz19_3 := blk_frozen BK345.out 3
    have hfz19_4 := blk_frozen BK345.out 4
    have hnb20 := NB346_344.out
    have hnc20 := NB344_346.out
    have hcz21_0 : w12.cell? ⟨gb346, 0, none⟩ = some (.int .u32 a4_0) := (blk_cell BK346.out 0).trans rfl
    have hcz21_1 : w12.cell? ⟨gb346, 1, none⟩ = some (.int .u8 a4_1) := (blk_cell BK346.out 1).trans rfl
    have hcz21_2 : w12.cell? ⟨gb346, 2, none⟩ = some (.int .i64 a4_2) := (blk_cell BK346.out 2).trans rfl
    have hcz21_3 : w12.cell? ⟨gb346, 3, none⟩ = some (.int .i64 a4_3) := (blk_cell BK346.out 3).trans rfl
    have hcz21_4 : w12.cell? ⟨gb346, 4, none⟩ = some (.int .i64 a4_4) := (blk_cell BK346.out 4).trans rfl
    have hfz21_0 := blk_frozen BK346.out 0
    have hfz21_1 := blk_frozen BK346.out 1
    have hfz21_2 := blk_frozen BK346.out 2
    have hfz21_3 := blk_frozen BK346.out 3
    have hfz21_4 := blk_frozen BK346.out 4
    go_wp2
    go_meet
    case rel => exact ⟨_, ((a4_4 != (-2))), (by first | rfl | (simp; done) | (simp [*]; done)), H', ⟨by first | omega | exact Nat.le_refl _⟩, ⟨by (with_reducible repeat (first | refine blk_drewN ?_ _ | refine blk_drew ?_ | refine blk_alloc ?_ _)); exact BK344.out⟩, ⟨by (with_reducible repeat (first | refine blk_drewN ?_ _ | refine blk_drew ?_ | refine blk_alloc ?_ _)); exact BK345.out⟩, ⟨by (with_reducible repeat (first | refine blk_drewN ?_ _ | refine blk_drew ?_ | refine blk_alloc ?_ _)); exact BK346.out⟩, ⟨by repeat (first | (with_reducible first | exact HB.out | apply below_alloc | apply pw_below_drewN | apply below_drew1 | refine below_set ?_ GE344.out | refine below_set ?_ GE345.out | refine below_set ?_ GE346.out) | exact HB.out)⟩⟩
  case rest =>
   clear HC9
   try clear c1
   try clear c2
   try clear p2
   try clear c8
   try clear c13
   try clear c13b0
   try clear c13b1
   try clear c14
   try clear c15
   try clear c17
   try clear c18
   try clear c20
   try clear hcz16_0
   try clear hcz16_1
   try clear hcz16_2
   try clear hcz16_3
   try clear hcz16_4
   try clear hcz19_0
   try clear hcz19_1
   try clear hcz19_2
   try clear hcz19_3
   try clear hcz19_4
   try clear hcz21_0
   try clear hcz21_1
   try clear hcz21_2
   try clear hcz21_3
   try clear hcz21_4
   try clear hfz16_0
   try clear hfz16_1
   try clear hfz16_2
   try clear hfz16_3
   try clear hfz16_4
   try clear hfz19_0
   try clear hfz19_1
   try clear hfz19_2
   try clear hfz19_3
   try clear hfz19_4
   try clear hfz21_0
   try clear hfz21_1
   try clear hfz21_2
   try clear hfz21_3
   try clear hfz21_4
   obtain ⟨kq, x13_8, rfl, HA, HJ8, BK344, BK345, BK346, HB⟩ := hcut
   cases kq with
   | zero => exact absurd HA.out (by simp [horariumref15_Never.j0])
   | succ kj8 =>
    have H := HA.out
    clear HA
    simp only [horariumref15_Never.j0] at H
    replace H := Option.bind_eq_some_iff.mp H
    obtain ⟨t348, A220, H⟩ := H
    replace H : (if t348 = true then (if x13_8 = true then ((horariumref15_Holds.f kj8 a0_0 a0_1 a0_2 a1 a2 a3_0 a3_1 a3_2 a3_3 a3_4 a4_0 a4_1 a4_2 a4_3 a4_4 a5).bind fun t349 => (some (!t349))) else (if a1 = 10 then (if a3_4 = (-1) then ((horariumref15_Holds.f kj8 a0_0 a0_1 a0_2 a1 a2 a3_0 a3_1 a3_2 a3_3 a3_4 a4_0 a4_1 a4_2 a4_3 a4_4 a5).bind fun t350 => (some (!t350))) else (if a4_4 = (-1) then ((horariumref15_Holds.f kj8 a0_0 a0_1 a0_2 a1 a2 a3_0 a3_1 a3_2 a3_3 a3_4 a4_0 a4_1 a4_2 a4_3 a4_4 a5).bind fun t351 => (some (!t351))) else (some false))) else (some false))) else (if a3_0 = 0 then (horariumref15_Never.j1 kj8 a1 a2 x13_8 true a0_0 a0_1 a0_2 a3_0 a3_1 a3_2 a3_3 a3_4 a4_0 a4_1 a4_2 a4_3 a4_4) else (if a4_0 = 0 then (horariumref15_Never.j1 kj8 a1 a2 x13_8 true a0_0 a0_1 a0_2 a3_0 a3_1 a3_2 a3_3 a3_4 a4_0 a4_1 a4_2 a4_3 a4_4) else ((horariumref15_Holds.f kj8 a0_0 a0_1 a0_2 a1 a2 a3_0 a3_1 a3_2 a3_3 a3_4 a4_0 a4_1 a4_2 a4_3 a4_4 a5).bind fun t352 => (horariumref15_Never.j1 kj8 a1 a2 x13_8 t352 a0_0 a0_1 a0_2 a3_0 a3_1 a3_2 a3_3 a3_4 a4_0 a4_1 a4_2 a4_3 a4_4))))) = some r := H
    have A22 := Aside0.mk A220
    clear A220
    by_cases c23 : t348 = true
    ·
     subst c23
     have H1 : (if x13_8 = true then ((horariumref15_Holds.f kj8 a0_0 a0_1 a0_2 a1 a2 a3_0 a3_1 a3_2 a3_3 a3_4 a4_0 a4_1 a4_2 a4_3 a4_4 a5).bind fun t349 => (some (!t349))) else (if a1 = 10 then (if a3_4 = (-1) then ((horariumref15_Holds.f kj8 a0_0 a0_1 a0_2 a1 a2 a3_0 a3_1 a3_2 a3_3 a3_4 a4_0 a4_1 a4_2 a4_3 a4_4 a5).bind fun t350 => (some (!t350))) else (if a4_4 = (-1) then ((horariumref15_Holds.f kj8 a0_0 a0_1 a0_2 a1 a2 a3_0 a3_1 a3_2 a3_3 a3_4 a4_0 a4_1 a4_2 a4_3 a4_4 a5).bind fun t351 => (some (!t351))) else (some false))) else (some false))) = some r := by rw [if_pos rfl] at H; exact H
     clear H
     have H := H1
     clear H1
     by_cases c24 : x13_8 = true
     ·
      subst c24
      have H1 : ((horariumref15_Holds.f kj8 a0_0 a0_1 a0_2 a1 a2 a3_0 a3_1 a3_2 a3_3 a3_4 a4_0 a4_1 a4_2 a4_3 a4_4 a5).bind fun t349 => (some (!t349))) = some r := by rw [if_pos rfl] at H; exact H
      clear H
      have H := H1
      clear H1
      replace H := Option.bind_eq_some_iff.mp H
      obtain ⟨t349, A250, H⟩ := H
      replace H : (some (!t349)) = some r := H
      have A25 := Aside0.mk A250
      clear A250
      obtain rfl := Option.some.inj H
      go_wp2_with (first | ((with_reducible refine gate_callee (f := 37) rfl ?_); refine goesL_ (some 26) rfl rfl Try.func37 (by kernel_rfl) rfl #[.int .i64 a1] rfl (by (try simp only [List.map_toArray, List.map_cons, List.map_nil]); first | done | rfl | (simp only [List.length_drop, List.length_take]; rfl)) ?_; (with_reducible refine (horariumref15_rooms.calls a1 true _ A22.out).mono ?_); rintro e w' ⟨rfl, ⟨nd, rfl⟩⟩; refine ⟨_, rfl, ?_⟩; have hnb26 := NB344_345.out; have hnc26 := NB345_344.out; have hnb27 := NB344_346.out; have hnc27 := NB346_344.out; have hcz28_0 : wc.cell? ⟨gb344, 0, none⟩ = some (.int .i64 a0_0) := (blk_cell BK344.out 0).trans rfl; have hcz28_1 : wc.cell? ⟨gb344, 1, none⟩ = some (.int .i64 a0_1) := (blk_cell BK344.out 1).trans rfl; have hcz28_2 : wc.cell? ⟨gb344, 2, none⟩ = some (.int .i64 a0_2) := (blk_cell BK344.out 2).trans rfl; have hfz28_0 := blk_frozen BK344.out 0; have hfz28_1 := blk_frozen BK344.out 1; have hfz28_2 := blk_frozen BK344.out 2; have hnb29 := NB345_346.out; have hnc29 := NB346_345.out; have hcz30_0 : wc.cell? ⟨gb345, 0, none⟩ = some (.int .u32 a3_0) := (blk_cell BK345.out 0).trans rfl; have hcz30_1 : wc.cell? ⟨gb345, 1, none⟩ = some (.int .u8 a3_1) := (blk_cell BK345.out 1).trans rfl; have hcz30_2 : wc.cell? ⟨gb345, 2, none⟩ = some (.int .i64 a3_2) := (blk_cell BK345.out 2).trans rfl; have hcz30_3 : wc.cell? ⟨gb345, 3, none⟩ = some (.int .i64 a3_3) := (blk_cell BK345.out 3).trans rfl; have hcz30_4 : wc.cell? ⟨gb345, 4, none⟩ = some (.int .i64 a3_4) := (blk_cell BK345.out 4).trans rfl; have hfz30_0 := blk_frozen BK345.out 0; have hfz30_1 := blk_frozen BK345.out 1; have hfz30_2 := blk_frozen BK345.out 2; have hfz30_3 := blk_frozen BK345.out 3; have hfz30_4 := blk_frozen BK345.out 4; have hcz31_0 : wc.cell? ⟨gb346, 0, none⟩ = some (.int .u32 a4_0) := (blk_cell BK346.out 0).trans rfl; have hcz31_1 : wc.cell? ⟨gb346, 1, none⟩ = some (.int .u8 a4_1) := (blk_cell BK346.out 1).trans rfl; have hcz31_2 : wc.cell? ⟨gb346, 2, none⟩ = some (.int .i64 a4_2) := (blk_cell BK346.out 2).trans rfl; have hcz31_3 : wc.cell? ⟨gb346, 3, none⟩ = some (.int .i64 a4_3) := (blk_cell BK346.out 3).trans rfl; have hcz31_4 : wc.cell? ⟨gb346, 4, none⟩ = some (.int .i64 a4_4) := (blk_cell BK346.out 4).trans rfl; have hfz31_0 := blk_frozen BK346.out 0; have hfz31_1 := blk_frozen BK346.out 1; have hfz31_2 := blk_frozen BK346.out 2; have hfz31_3 := blk_frozen BK346.out 3; have hfz31_4 := blk_frozen BK346.out 4) | (go_at_call 12; (with_reducible refine (horariumref15_Holds.calls kj8 a0_0 a0_1 a0_2 a1 a2 a3_0 a3_1 a3_2 a3_3 a3_4 a4_0 a4_1 a4_2 a4_3 a4_4 a5 t349 _ A25.out).mono ?_); rintro e w32 ⟨rfl, hb⟩; have n0_ := Aside0.mk (blk_below (g := gb344) (o := .cells #[.int .i64 a0_0, .int .i64 a0_1, .int .i64 a0_2] 23 (0, 0)) (by (with_reducible repeat (first | refine blk_drewN ?_ _ | refine blk_drew ?_ | refine blk_alloc ?_ _)); exact BK344.out) hb); have n1_ := Aside0.mk (blk_below (g := gb345) (o := .cells #[.int .u32 a3_0, .int .u8 a3_1, .int .i64 a3_2, .int .i64 a3_3, .int .i64 a3_4] 28 (0, 0)) (by (with_reducible repeat (first | refine blk_drewN ?_ _ | refine blk_drew ?_ | refine blk_alloc ?_ _)); exact BK345.out) hb); have n2_ := Aside0.mk (blk_below (g := gb346) (o := .cells #[.int .u32 a4_0, .int .u8 a4_1, .int .i64 a4_2, .int .i64 a4_3, .int .i64 a4_4] 28 (0, 0)) (by (with_reducible repeat (first | refine blk_drewN ?_ _ | refine blk_drew ?_ | refine blk_alloc ?_ _)); exact BK346.out) hb); have n3_ := Aside0.mk (below_step (by repeat (first | (with_reducible first | exact HB.out | apply below_alloc | apply pw_below_drewN | apply below_drew1 | refine below_set ?_ GE344.out | refine below_set ?_ GE345.out | refine below_set ?_ GE346.out) | exact HB.out)) hb); clear BK344; clear BK345; clear BK346; clear HB; have BK344 := n0_; have BK345 := n1_; have BK346 := n2_; have HB := n3_; clear n0_ n1_ n2_ n3_; (try clear hb); (try clear hb2); (try clear hk); (try clear hi)))
      go_ret
      exact ⟨by first | rfl | (simp [errW_none, errW_some] <;> rfl) | (simp [*, errW_none, errW_some] <;> rfl), by repeat (first | (with_reducible first | exact HB.out | apply below_alloc | apply pw_below_drewN | apply below_drew1 | refine below_set ?_ GE344.out | refine below_set ?_ GE345.out | refine below_set ?_ GE346.out) | exact HB.out)⟩
     ·
      replace c24 := Bool.eq_false_iff.mpr c24
      subst c24
      have H1 : (if a1 = 10 then (if a3_4 = (-1) then ((horariumref15_Holds.f kj8 a0_0 a0_1 a0_2 a1 a2 a3_0 a3_1 a3_2 a3_3 a3_4 a4_0 a4_1 a4_2 a4_3 a4_4 a5).bind fun t350 => (some (!t350))) else (if a4_4 = (-1) then ((horariumref15_Holds.f kj8 a0_0 a0_1 a0_2 a1 a2 a3_0 a3_1 a3_2 a3_3 a3_4 a4_0 a4_1 a4_2 a4_3 a4_4 a5).bind fun t351 => (some (!t351))) else (some false))) else (some false)) = some r := by rw [if_neg (show ¬ (false = true) by decide)] at H; exact H
      clear H
      have H := H1
      clear H1
      by_cases c33 : a1 = 10
      ·
       rw [if_pos c33] at H
       have c33b0 : (a1 == 10) = true := beq_iff_eq.mpr c33
       have c33b1 : (a1 != 10) = false := bne_eq_false_iff_eq.mpr c33
       clear c33
       by_cases c34 : a3_4 = (-1)
       ·
        rw [if_pos c34] at H
        have c34b0 : (a3_4 == (-1)) = true := beq_iff_eq.mpr c34
        have c34b1 : (a3_4 != (-1)) = false := bne_eq_false_iff_eq.mpr c34
        clear c34
        replace H := Option.bind_eq_some_iff.mp H
        obtain ⟨t350, A350, H⟩ := H
        replace H : (some (!t350)) = some r := H
        have A35 := Aside0.mk A350
        clear A350
        obtain rfl := Option.some.inj H
        go_wp2_with (first | ((with_reducible refine gate_callee (f := 37) rfl ?_); refine goesL_ (some 26) rfl rfl Try.func37 (by kernel_rfl) rfl #[.int .i64 a1] rfl (by (try simp only [List.map_toArray, List.map_cons, List.map_nil]); first | done | rfl | (simp only [List.length_drop, List.length_take]; rfl)) ?_; (with_reducible refine (horariumref15_rooms.calls a1 true _ A22.out).mono ?_); rintro e w' ⟨rfl, ⟨nd, rfl⟩⟩; refine ⟨_, rfl, ?_⟩; have hnb36 := NB345_344.out; have hnc36 := NB344_345.out; have hnb37 := NB345_346.out; have hnc37 := NB346_345.out; have hcz38_0 : wc.cell? ⟨gb345, 0, none⟩ = some (.int .u32 a3_0) := (blk_cell BK345.out 0).trans rfl; have hcz38_1 : wc.cell? ⟨gb345, 1, none⟩ = some (.int .u8 a3_1) := (blk_cell BK345.out 1).trans rfl; have hcz38_2 : wc.cell? ⟨gb345, 2, none⟩ = some (.int .i64 a3_2) := (blk_cell BK345.out 2).trans rfl; have hcz38_3 : wc.cell? ⟨gb345, 3, none⟩ = some (.int .i64 a3_3) := (blk_cell BK345.out 3).trans rfl; have hcz38_4 : wc.cell? ⟨gb345, 4, none⟩ = some (.int .i64 a3_4) := (blk_cell BK345.out 4).trans rfl; have hfz38_0 := blk_frozen BK345.out 0; have hfz38_1 := blk_frozen BK345.out 1; have hfz38_2 := blk_frozen BK345.out 2; have hfz38_3 := blk_frozen BK345.out 3; have hfz38_4 := blk_frozen BK345.out 4; have hnb39 := NB344_346.out; have hnc39 := NB346_344.out; have hcz40_0 : wc.cell? ⟨gb344, 0, none⟩ = some (.int .i64 a0_0) := (blk_cell BK344.out 0).trans rfl; have hcz40_1 : wc.cell? ⟨gb344, 1, none⟩ = some (.int .i64 a0_1) := (blk_cell BK344.out 1).trans rfl; have hcz40_2 : wc.cell? ⟨gb344, 2, none⟩ = some (.int .i64 a0_2) := (blk_cell BK344.out 2).trans rfl; have hfz40_0 := blk_frozen BK344.out 0; have hfz40_1 := blk_frozen BK344.out 1; have hfz40_2 := blk_frozen BK344.out 2; have hcz41_0 : wc.cell? ⟨gb346, 0, none⟩ = some (.int .u32 a4_0) := (blk_cell BK346.out 0).trans rfl; have hcz41_1 : wc.cell? ⟨gb346, 1, none⟩ = some (.int .u8 a4_1) := (blk_cell BK346.out 1).trans rfl; have hcz41_2 : wc.cell? ⟨gb346, 2, none⟩ = some (.int .i64 a4_2) := (blk_cell BK346.out 2).trans rfl; have hcz41_3 : wc.cell? ⟨gb346, 3, none⟩ = some (.int .i64 a4_3) := (blk_cell BK346.out 3).trans rfl; have hcz41_4 : wc.cell? ⟨gb346, 4, none⟩ = some (.int .i64 a4_4) := (blk_cell BK346.out 4).trans rfl; have hfz41_0 := blk_frozen BK346.out 0; have hfz41_1 := blk_frozen BK346.out 1; have hfz41_2 := blk_frozen BK346.out 2; have hfz41_3 := blk_frozen BK346.out 3; have hfz41_4 := blk_frozen BK346.out 4) | (go_at_call 12; (with_reducible refine (horariumref15_Holds.calls kj8 a0_0 a0_1 a0_2 a1 a2 a3_0 a3_1 a3_2 a3_3 a3_4 a4_0 a4_1 a4_2 a4_3 a4_4 a5 t350 _ A35.out).mono ?_); rintro e w42 ⟨rfl, hb⟩; have n0_ := Aside0.mk (blk_below (g := gb344) (o := .cells #[.int .i64 a0_0, .int .i64 a0_1, .int .i64 a0_2] 23 (0, 0)) (by (with_reducible repeat (first | refine blk_drewN ?_ _ | refine blk_drew ?_ | refine blk_alloc ?_ _)); exact BK344.out) hb); have n1_ := Aside0.mk (blk_below (g := gb345) (o := .cells #[.int .u32 a3_0, .int .u8 a3_1, .int .i64 a3_2, .int .i64 a3_3, .int .i64 a3_4] 28 (0, 0)) (by (with_reducible repeat (first | refine blk_drewN ?_ _ | refine blk_drew ?_ | refine blk_alloc ?_ _)); exact BK345.out) hb); have n2_ := Aside0.mk (blk_below (g := gb346) (o := .cells #[.int .u32 a4_0, .int .u8 a4_1, .int .i64 a4_2, .int .i64 a4_3, .int .i64 a4_4] 28 (0, 0)) (by (with_reducible repeat (first | refine blk_drewN ?_ _ | refine blk_drew ?_ | refine blk_alloc ?_ _)); exact BK346.out) hb); have n3_ := Aside0.mk (below_step (by repeat (first | (with_reducible first | exact HB.out | apply below_alloc | apply pw_below_drewN | apply below_drew1 | refine below_set ?_ GE344.out | refine below_set ?_ GE345.out | refine below_set ?_ GE346.out) | exact HB.out)) hb); clear BK344; clear BK345; clear BK346; clear HB; have BK344 := n0_; have BK345 := n1_; have BK346 := n2_; have HB := n3_; clear n0_ n1_ n2_ n3_; (try clear hb); (try clear hb2); (try clear hk); (try clear hi)))
        go_ret
        exact ⟨by first | rfl | (simp [errW_none, errW_some] <;> rfl) | (simp [*, errW_none, errW_some] <;> rfl), by repeat (first | (with_reducible first | exact HB.out | apply below_alloc | apply pw_below_drewN | apply below_drew1 | refine below_set ?_ GE344.out | refine below_set ?_ GE345.out | refine below_set ?_ GE346.out) | exact HB.out)⟩
       ·
        rw [if_neg c34] at H
        have c34b0 : (a3_4 == (-1)) = false := beq_eq_false_iff_ne.mpr c34
        have c34b1 : (a3_4 != (-1)) = true := bne_iff_ne.mpr c34
        by_cases c43 : a4_4 = (-1)
        ·
         rw [if_pos c43] at H
         have c43b0 : (a4_4 == (-1)) = true := beq_iff_eq.mpr c43
         have c43b1 : (a4_4 != (-1)) = false := bne_eq_false_iff_eq.mpr c43
         clear c43
         replace H := Option.bind_eq_some_iff.mp H
         obtain ⟨t351, A440, H⟩ := H
         replace H : (some (!t351)) = some r := H
         have A44 := Aside0.mk A440
         clear A440
         obtain rfl := Option.some.inj H
         go_wp2_with (first | ((with_reducible refine gate_callee (f := 37) rfl ?_); refine goesL_ (some 26) rfl rfl Try.func37 (by kernel_rfl) rfl #[.int .i64 a1] rfl (by (try simp only [List.map_toArray, List.map_cons, List.map_nil]); first | done | rfl | (simp only [List.length_drop, List.length_take]; rfl)) ?_; (with_reducible refine (horariumref15_rooms.calls a1 true _ A22.out).mono ?_); rintro e w' ⟨rfl, ⟨nd, rfl⟩⟩; refine ⟨_, rfl, ?_⟩; have hnb45 := NB345_344.out; have hnc45 := NB344_345.out; have hnb46 := NB345_346.out; have hnc46 := NB346_345.out; have hcz47_0 : wc.cell? ⟨gb345, 0, none⟩ = some (.int .u32 a3_0) := (blk_cell BK345.out 0).trans rfl; have hcz47_1 : wc.cell? ⟨gb345, 1, none⟩ = some (.int .u8 a3_1) := (blk_cell BK345.out 1).trans rfl; have hcz47_2 : wc.cell? ⟨gb345, 2, none⟩ = some (.int .i64 a3_2) := (blk_cell BK345.out 2).trans rfl; have hcz47_3 : wc.cell? ⟨gb345, 3, none⟩ = some (.int .i64 a3_3) := (blk_cell BK345.out 3).trans rfl; have hcz47_4 : wc.cell? ⟨gb345, 4, none⟩ = some (.int .i64 a3_4) := (blk_cell BK345.out 4).trans rfl; have hfz47_0 := blk_frozen BK345.out 0; have hfz47_1 := blk_frozen BK345.out 1; have hfz47_2 := blk_frozen BK345.out 2; have hfz47_3 := blk_frozen BK345.out 3; have hfz47_4 := blk_frozen BK345.out 4; have hnb48 := NB346_344.out; have hnc48 := NB344_346.out; have hcz49_0 : wc.cell? ⟨gb346, 0, none⟩ = some (.int .u32 a4_0) := (blk_cell BK346.out 0).trans rfl; have hcz49_1 : wc.cell? ⟨gb346, 1, none⟩ = some (.int .u8 a4_1) := (blk_cell BK346.out 1).trans rfl; have hcz49_2 : wc.cell? ⟨gb346, 2, none⟩ = some (.int .i64 a4_2) := (blk_cell BK346.out 2).trans rfl; have hcz49_3 : wc.cell? ⟨gb346, 3, none⟩ = some (.int .i64 a4_3) := (blk_cell BK346.out 3).trans rfl; have hcz49_4 : wc.cell? ⟨gb346, 4, none⟩ = some (.int .i64 a4_4) := (blk_cell BK346.out 4).trans rfl; have hfz49_0 := blk_frozen BK346.out 0; have hfz49_1 := blk_frozen BK346.out 1; have hfz49_2 := blk_frozen BK346.out 2; have hfz49_3 := blk_frozen BK346.out 3; have hfz49_4 := blk_frozen BK346.out 4; have hcz50_0 : wc.cell? ⟨gb344, 0, none⟩ = some (.int .i64 a0_0) := (blk_cell BK344.out 0).trans rfl; have hcz50_1 : wc.cell? ⟨gb344, 1, none⟩ = some (.int .i64 a0_1) := (blk_cell BK344.out 1).trans rfl; have hcz50_2 : wc.cell? ⟨gb344, 2, none⟩ = some (.int .i64 a0_2) := (blk_cell BK344.out 2).trans rfl; have hfz50_0 := blk_frozen BK344.out 0; have hfz50_1 := blk_frozen BK344.out 1; have hfz50_2 := blk_frozen BK344.out 2) | (go_at_call 12; (with_reducible refine (horariumref15_Holds.calls kj8 a0_0 a0_1 a0_2 a1 a2 a3_0 a3_1 a3_2 a3_3 a3_4 a4_0 a4_1 a4_2 a4_3 a4_4 a5 t351 _ A44.out).mono ?_); rintro e w51 ⟨rfl, hb⟩; have n0_ := Aside0.mk (blk_below (g := gb344) (o := .cells #[.int .i64 a0_0, .int .i64 a0_1, .int .i64 a0_2] 23 (0, 0)) (by (with_reducible repeat (first | refine blk_drewN ?_ _ | refine blk_drew ?_ | refine blk_alloc ?_ _)); exact BK344.out) hb); have n1_ := Aside0.mk (blk_below (g := gb345) (o := .cells #[.int .u32 a3_0, .int .u8 a3_1, .int .i64 a3_2, .int .i64 a3_3, .int .i64 a3_4] 28 (0, 0)) (by (with_reducible repeat (first | refine blk_drewN ?_ _ | refine blk_drew ?_ | refine blk_alloc ?_ _)); exact BK345.out) hb); have n2_ := Aside0.mk (blk_below (g := gb346) (o := .cells #[.int .u32 a4_0, .int .u8 a4_1, .int .i64 a4_2, .int .i64 a4_3, .int .i64 a4_4] 28 (0, 0)) (by (with_reducible repeat (first | refine blk_drewN ?_ _ | refine blk_drew ?_ | refine blk_alloc ?_ _)); exact BK346.out) hb); have n3_ := Aside0.mk (below_step (by repeat (first | (with_reducible first | exact HB.out | apply below_alloc | apply pw_below_drewN | apply below_drew1 | refine below_set ?_ GE344.out | refine below_set ?_ GE345.out | refine below_set ?_ GE346.out) | exact HB.out)) hb); clear BK344; clear BK345; clear BK346; clear HB; have BK344 := n0_; have BK345 := n1_; have BK346 := n2_; have HB := n3_; clear n0_ n1_ n2_ n3_; (try clear hb); (try clear hb2); (try clear hk); (try clear hi)))
         go_ret
         exact ⟨by first | rfl | (simp [errW_none, errW_some] <;> rfl) | (simp [*, errW_none, errW_some] <;> rfl), by repeat (first | (with_reducible first | exact HB.out | apply below_alloc | apply pw_below_drewN | apply below_drew1 | refine below_set ?_ GE344.out | refine below_set ?_ GE345.out | refine below_set ?_ GE346.out) | exact HB.out)⟩
        ·
         rw [if_neg c43] at H
         have c43b0 : (a4_4 == (-1)) = false := beq_eq_false_iff_ne.mpr c43
         have c43b1 : (a4_4 != (-1)) = true := bne_iff_ne.mpr c43
         obtain rfl := Option.some.inj H
         go_wp2_with (first | ((with_reducible refine gate_callee (f := 37) rfl ?_); refine goesL_ (some 26) rfl rfl Try.func37 (by kernel_rfl) rfl #[.int .i64 a1] rfl (by (try simp only [List.map_toArray, List.map_cons, List.map_nil]); first | done | rfl | (simp only [List.length_drop, List.length_take]; rfl)) ?_; (with_reducible refine (horariumref15_rooms.calls a1 true _ A22.out).mono ?_); rintro e w' ⟨rfl, ⟨nd, rfl⟩⟩; refine ⟨_, rfl, ?_⟩; have hnb52 := NB345_344.out; have hnc52 := NB344_345.out; have hnb53 := NB345_346.out; have hnc53 := NB346_345.out; have hcz54_0 : wc.cell? ⟨gb345, 0, none⟩ = some (.int .u32 a3_0) := (blk_cell BK345.out 0).trans rfl; have hcz54_1 : wc.cell? ⟨gb345, 1, none⟩ = some (.int .u8 a3_1) := (blk_cell BK345.out 1).trans rfl; have hcz54_2 : wc.cell? ⟨gb345, 2, none⟩ = some (.int .i64 a3_2) := (blk_cell BK345.out 2).trans rfl; have hcz54_3 : wc.cell? ⟨gb345, 3, none⟩ = some (.int .i64 a3_3) := (blk_cell BK345.out 3).trans rfl; have hcz54_4 : wc.cell? ⟨gb345, 4, none⟩ = some (.int .i64 a3_4) := (blk_cell BK345.out 4).trans rfl; have hfz54_0 := blk_frozen BK345.out 0; have hfz54_1 := blk_frozen BK345.out 1; have hfz54_2 := blk_frozen BK345.out 2; have hfz54_3 := blk_frozen BK345.out 3; have hfz54_4 := blk_frozen BK345.out 4; have hnb55 := NB346_344.out; have hnc55 := NB344_346.out; have hcz56_0 : wc.cell? ⟨gb346, 0, none⟩ = some (.int .u32 a4_0) := (blk_cell BK346.out 0).trans rfl; have hcz56_1 : wc.cell? ⟨gb346, 1, none⟩ = some (.int .u8 a4_1) := (blk_cell BK346.out 1).trans rfl; have hcz56_2 : wc.cell? ⟨gb346, 2, none⟩ = some (.int .i64 a4_2) := (blk_cell BK346.out 2).trans rfl; have hcz56_3 : wc.cell? ⟨gb346, 3, none⟩ = some (.int .i64 a4_3) := (blk_cell BK346.out 3).trans rfl; have hcz56_4 : wc.cell? ⟨gb346, 4, none⟩ = some (.int .i64 a4_4) := (blk_cell BK346.out 4).trans rfl; have hfz56_0 := blk_frozen BK346.out 0; have hfz56_1 := blk_frozen BK346.out 1; have hfz56_2 := blk_frozen BK346.out 2; have hfz56_3 := blk_frozen BK346.out 3; have hfz56_4 := blk_frozen BK346.out 4))
         go_ret
         exact ⟨by first | rfl | (simp [errW_none, errW_some] <;> rfl) | (simp [*, errW_none, errW_some] <;> rfl), by repeat (first | (with_reducible first | exact HB.out | apply below_alloc | apply pw_below_drewN | apply below_drew1 | refine below_set ?_ GE344.out | refine below_set ?_ GE345.out | refine below_set ?_ GE346.out) | exact HB.out)⟩
      ·
       rw [if_neg c33] at H
       have c33b0 : (a1 == 10) = false := beq_eq_false_iff_ne.mpr c33
       have c33b1 : (a1 != 10) = true := bne_iff_ne.mpr c33
       obtain rfl := Option.some.inj H
       go_wp2_with (first | ((with_reducible refine gate_callee (f := 37) rfl ?_); refine goesL_ (some 26) rfl rfl Try.func37 (by kernel_rfl) rfl #[.int .i64 a1] rfl (by (try simp only [List.map_toArray, List.map_cons, List.map_nil]); first | done | rfl | (simp only [List.length_drop, List.length_take]; rfl)) ?_; (with_reducible refine (horariumref15_rooms.calls a1 true _ A22.out).mono ?_); rintro e w' ⟨rfl, ⟨nd, rfl⟩⟩; refine ⟨_, rfl, ?_⟩))
       go_ret
       exact ⟨by first | rfl | (simp [errW_none, errW_some] <;> rfl) | (simp [*, errW_none, errW_some] <;> rfl), by repeat (first | (with_reducible first | exact HB.out | apply below_alloc | apply pw_below_drewN | apply below_drew1 | refine below_set ?_ GE344.out | refine below_set ?_ GE345.out | refine below_set ?_ GE346.out) | exact HB.out)⟩
    ·
     replace c23 := Bool.eq_false_iff.mpr c23
     subst c23
     have H1 : (if a3_0 = 0 then (horariumref15_Never.j1 kj8 a1 a2 x13_8 true a0_0 a0_1 a0_2 a3_0 a3_1 a3_2 a3_3 a3_4 a4_0 a4_1 a4_2 a4_3 a4_4) else (if a4_0 = 0 then (horariumref15_Never.j1 kj8 a1 a2 x13_8 true a0_0 a0_1 a0_2 a3_0 a3_1 a3_2 a3_3 a3_4 a4_0 a4_1 a4_2 a4_3 a4_4) else ((horariumref15_Holds.f kj8 a0_0 a0_1 a0_2 a1 a2 a3_0 a3_1 a3_2 a3_3 a3_4 a4_0 a4_1 a4_2 a4_3 a4_4 a5).bind fun t352 => (horariumref15_Never.j1 kj8 a1 a2 x13_8 t352 a0_0 a0_1 a0_2 a3_0 a3_1 a3_2 a3_3 a3_4 a4_0 a4_1 a4_2 a4_3 a4_4)))) = some r := by rw [if_neg (show ¬ (false = true) by decide)] at H; exact H
     clear H
     have H := H1
     clear H1
     have HC57 := Aside0.mk H
     clear H
     go_upto_region 6 with (first | ((with_reducible refine gate_callee (f := 37) rfl ?_); refine goesL_ (some 26) rfl rfl Try.func37 (by kernel_rfl) rfl #[.int .i64 a1] rfl (by (try simp only [List.map_toArray, List.map_cons, List.map_nil]); first | done | rfl | (simp only [List.length_drop, List.length_take]; rfl)) ?_; (with_reducible refine (horariumref15_rooms.calls a1 false _ A22.out).mono ?_); rintro e w' ⟨rfl, ⟨nd, rfl⟩⟩; refine ⟨_, rfl, ?_⟩))
     (try simp only [Act.put, List.setIfInBounds_toArray, List.set_cons_zero, List.set_cons_succ])
     go_cut [70] (fun v70 wc => ∃ (kq : Nat) (x70_56 : Bool), v70 = .bool x70_56 ∧ Aside0 (horariumref15_Never.j1 kq a1 a2 x13_8 x70_56 a0_0 a0_1 a0_2 a3_0 a3_1 a3_2 a3_3 a3_4 a4_0 a4_1 a4_2 a4_3 a4_4 = some r) ∧ Aside0 (kq ≤ kj8) ∧ Aside0 (wc.heap[gb344]? = some (.cells #[.int .i64 a0_0, .int .i64 a0_1, .int .i64 a0_2] 23 (0, 0))) ∧ Aside0 (wc.heap[gb345]? = some (.cells #[.int .u32 a3_0, .int .u8 a3_1, .int .i64 a3_2, .int .i64 a3_3, .int .i64 a3_4] 28 (0, 0))) ∧ Aside0 (wc.heap[gb346]? = some (.cells #[.int .u32 a4_0, .int .u8 a4_1, .int .i64 a4_2, .int .i64 a4_3, .int .i64 a4_4] 28 (0, 0))) ∧ Aside0 (Below w.heap.size w wc))
     case first =>
      have H := HC57.out
      clear HC57
      by_cases c58 : a3_0 = 0
      ·
       rw [if_pos c58] at H
       have c58b0 : (a3_0 == 0) = true := beq_iff_eq.mpr c58
       have c58b1 : (a3_0 != 0) = false := bne_eq_false_iff_eq.mpr c58
       clear c58
       (first | rw [c58b0] | (simp only [i64_w, i32_w]; rw [c58b0]) | skip)
       have H' := Aside0.mk H
       clear H
       have hnb59 := NB345_344.out
       have hnc59 := NB344_345.out
       have hnb60 := NB345_346.out
       have hnc60 := NB346_345.out
       have hcz61_0 : wc.cell? ⟨gb345, 0, none⟩ = some (.int .u32 a3_0) := (blk_cell BK345.out 0).trans rfl
       have hcz61_1 : wc.cell? ⟨gb345, 1, none⟩ = some (.int .u8 a3_1) := (blk_cell BK345.out 1).trans rfl
       have hcz61_2 : wc.cell? ⟨gb345, 2, none⟩ = some (.int .i64 a3_2) := (blk_cell BK345.out 2).trans rfl
       have hcz61_3 : wc.cell? ⟨gb345, 3, none⟩ = some (.int .i64 a3_3) := (blk_cell BK345.out 3).trans rfl
       have hcz61_4 : wc.cell? ⟨gb345, 4, none⟩ = some (.int .i64 a3_4) := (blk_cell BK345.out 4).trans rfl
       have hfz61_0 := blk_frozen BK345.out 0
       have hfz61_1 := blk_frozen BK345.out 1
       have hfz61_2 := blk_frozen BK345.out 2
       have hfz61_3 := blk_frozen BK345.out 3
       have hfz61_4 := blk_frozen BK345.out 4
       go_wp2
       go_meet
       case rel => exact ⟨_, (true), (by first | rfl | (simp; done) | (simp [*]; done)), H', ⟨by have := HJ8.out; first | omega | exact Nat.le_refl _⟩, ⟨by (with_reducible repeat (first | refine blk_drewN ?_ _ | refine blk_drew ?_ | refine blk_alloc ?_ _)); exact BK344.out⟩, ⟨by (with_reducible repeat (first | refine blk_drewN ?_ _ | refine blk_drew ?_ | refine blk_alloc ?_ _)); exact BK345.out⟩, ⟨by (with_reducible repeat (first | refine blk_drewN ?_ _ | refine blk_drew ?_ | refine blk_alloc ?_ _)); exact BK346.out⟩, ⟨by repeat (first | (with_reducible first | exact HB.out | apply below_alloc | apply pw_below_drewN | apply below_drew1 | refine below_set ?_ GE344.out | refine below_set ?_ GE345.out | refine below_set ?_ GE346.out) | exact HB.out)⟩⟩
      ·
       rw [if_neg c58] at H
       have c58b0 : (a3_0 == 0) = false := beq_eq_false_iff_ne.mpr c58
       have c58b1 : (a3_0 != 0) = true := bne_iff_ne.mpr c58
       (first | rw [c58b0] | (simp only [i64_w, i32_w]; rw [c58b0]) | skip)
       by_cases c62 : a4_0 = 0
       ·
        rw [if_pos c62] at H
        have c62b0 : (a4_0 == 0) = true := beq_iff_eq.mpr c62
        have c62b1 : (a4_0 != 0) = false := bne_eq_false_iff_eq.mpr c62
        clear c62
        have H' := Aside0.mk H
        clear H
        have hnb63 := NB345_344.out
        have hnc63 := NB344_345.out
        have hnb64 := NB345_346.out
        have hnc64 := NB346_345.out
        have hcz65_0 : wc.cell? ⟨gb345, 0, none⟩ = some (.int .u32 a3_0) := (blk_cell BK345.out 0).trans rfl
        have hcz65_1 : wc.cell? ⟨gb345, 1, none⟩ = some (.int .u8 a3_1) := (blk_cell BK345.out 1).trans rfl
        have hcz65_2 : wc.cell? ⟨gb345, 2, none⟩ = some (.int .i64 a3_2) := (blk_cell BK345.out 2).trans rfl
        have hcz65_3 : wc.cell? ⟨gb345, 3, none⟩ = some (.int .i64 a3_3) := (blk_cell BK345.out 3).trans rfl
        have hcz65_4 : wc.cell? ⟨gb345, 4, none⟩ = some (.int .i64 a3_4) := (blk_cell BK345.out 4).trans rfl
        have hfz65_0 := blk_frozen BK345.out 0
        have hfz65_1 := blk_frozen BK345.out 1
        have hfz65_2 := blk_frozen BK345.out 2
        have hfz65_3 := blk_frozen BK345.out 3
        have hfz65_4 := blk_frozen BK345.out 4
        have hnb66 := NB346_344.out
        have hnc66 := NB344_346.out
        have hcz67_0 : wc.cell? ⟨gb346, 0, none⟩ = some (.int .u32 a4_0) := (blk_cell BK346.out 0).trans rfl
        have hcz67_1 : wc.cell? ⟨gb346, 1, none⟩ = some (.int .u8 a4_1) := (blk_cell BK346.out 1).trans rfl
        have hcz67_2 : wc.cell? ⟨gb346, 2, none⟩ = some (.int .i64 a4_2) := (blk_cell BK346.out 2).trans rfl
        have hcz67_3 : wc.cell? ⟨gb346, 3, none⟩ = some (.int .i64 a4_3) := (blk_cell BK346.out 3).trans rfl
        have hcz67_4 : wc.cell? ⟨gb346, 4, none⟩ = some (.int .i64 a4_4) := (blk_cell BK346.out 4).trans rfl
        have hfz67_0 := blk_frozen BK346.out 0
        have hfz67_1 := blk_frozen BK346.out 1
        have hfz67_2 := blk_frozen BK346.out 2
        have hfz67_3 := blk_frozen BK346.out 3
        have hfz67_4 := blk_frozen BK346.out 4
        go_wp2
        go_meet
        case rel => exact ⟨_, (true), (by first | rfl | (simp; done) | (simp [*]; done)), H', ⟨by have := HJ8.out; first | omega | exact Nat.le_refl _⟩, ⟨by (with_reducible repeat (first | refine blk_drewN ?_ _ | refine blk_drew ?_ | refine blk_alloc ?_ _)); exact BK344.out⟩, ⟨by (with_reducible repeat (first | refine blk_drewN ?_ _ | refine blk_drew ?_ | refine blk_alloc ?_ _)); exact BK345.out⟩, ⟨by (with_reducible repeat (first | refine blk_drewN ?_ _ | refine blk_drew ?_ | refine blk_alloc ?_ _)); exact BK346.out⟩, ⟨by repeat (first | (with_reducible first | exact HB.out | apply below_alloc | apply pw_below_drewN | apply below_drew1 | refine below_set ?_ GE344.out | refine below_set ?_ GE345.out | refine below_set ?_ GE346.out) | exact HB.out)⟩⟩
       ·
        rw [if_neg c62] at H
        have c62b0 : (a4_0 == 0) = false := beq_eq_false_iff_ne.mpr c62
        have c62b1 : (a4_0 != 0) = true := bne_iff_ne.mpr c62
        replace H := Option.bind_eq_some_iff.mp H
        obtain ⟨t352, A680, H⟩ := H
        replace H : (horariumref15_Never.j1 kj8 a1 a2 x13_8 t352 a0_0 a0_1 a0_2 a3_0 a3_1 a3_2 a3_3 a3_4 a4_0 a4_1 a4_2 a4_3 a4_4) = some r := H
        have A68 := Aside0.mk A680
        clear A680
        have H' := Aside0.mk H
        clear H
        have hnb69 := NB345_344.out
        have hnc69 := NB344_345.out
        have hnb70 := NB345_346.out
        have hnc70 := NB346_345.out
        have hcz71_0 : wc.cell? ⟨gb345, 0, none⟩ = some (.int .u32 a3_0) := (blk_cell BK345.out 0).trans rfl
        have hcz71_1 : wc.cell? ⟨gb345, 1, none⟩ = some (.int .u8 a3_1) := (blk_cell BK345.out 1).trans rfl
        have hcz71_2 : wc.cell? ⟨gb345, 2, none⟩ = some (.int .i64 a3_2) := (blk_cell BK345.out 2).trans rfl
        have hcz71_3 : wc.cell? ⟨gb345, 3, none⟩ = some (.int .i64 a3_3) := (blk_cell BK345.out 3).trans rfl
        have hcz71_4 : wc.cell? ⟨gb345, 4, none⟩ = some (.int .i64 a3_4) := (blk_cell BK345.out 4).trans rfl
        have hfz71_0 := blk_frozen BK345.out 0
        have hfz71_1 := blk_frozen BK345.out 1
        have hfz71_2 := blk_frozen BK345.out 2
        have hfz71_3 := blk_frozen BK345.out 3
        have hfz71_4 := blk_frozen BK345.out 4
        have hnb72 := NB346_344.out
        have hnc72 := NB344_346.out
        have hcz73_0 : wc.cell? ⟨gb346, 0, none⟩ = some (.int .u32 a4_0) := (blk_cell BK346.out 0).trans rfl
        have hcz73_1 : wc.cell? ⟨gb346, 1, none⟩ = some (.int .u8 a4_1) := (blk_cell BK346.out 1).trans rfl
        have hcz73_2 : wc.cell? ⟨gb346, 2, none⟩ = some (.int .i64 a4_2) := (blk_cell BK346.out 2).trans rfl
        have hcz73_3 : wc.cell? ⟨gb346, 3, none⟩ = some (.int .i64 a4_3) := (blk_cell BK346.out 3).trans rfl
        have hcz73_4 : wc.cell? ⟨gb346, 4, none⟩ = some (.int .i64 a4_4) := (blk_cell BK346.out 4).trans rfl
        have hfz73_0 := blk_frozen BK346.out 0
        have hfz73_1 := blk_frozen BK346.out 1
        have hfz73_2 := blk_frozen BK346.out 2
        have hfz73_3 := blk_frozen BK346.out 3
        have hfz73_4 := blk_frozen BK346.out 4
        have hcz74_0 : wc.cell? ⟨gb344, 0, none⟩ = some (.int .i64 a0_0) := (blk_cell BK344.out 0).trans rfl
        have hcz74_1 : wc.cell? ⟨gb344, 1, none⟩ = some (.int .i64 a0_1) := (blk_cell BK344.out 1).trans rfl
        have hcz74_2 : wc.cell? ⟨gb344, 2, none⟩ = some (.int .i64 a0_2) := (blk_cell BK344.out 2).trans rfl
        have hfz74_0 := blk_frozen BK344.out 0
        have hfz74_1 := blk_frozen BK344.out 1
        have hfz74_2 := blk_frozen BK344.out 2
        go_wp2_with (first | (go_at_call 12; (with_reducible refine (horariumref15_Holds.calls kj8 a0_0 a0_1 a0_2 a1 a2 a3_0 a3_1 a3_2 a3_3 a3_4 a4_0 a4_1 a4_2 a4_3 a4_4 a5 t352 _ A68.out).mono ?_); rintro e w75 ⟨rfl, hb⟩; have n0_ := Aside0.mk (blk_below (g := gb344) (o := .cells #[.int .i64 a0_0, .int .i64 a0_1, .int .i64 a0_2] 23 (0, 0)) (by (with_reducible repeat (first | refine blk_drewN ?_ _ | refine blk_drew ?_ | refine blk_alloc ?_ _)); exact BK344.out) hb); have n1_ := Aside0.mk (blk_below (g := gb345) (o := .cells #[.int .u32 a3_0, .int .u8 a3_1, .int .i64 a3_2, .int .i64 a3_3, .int .i64 a3_4] 28 (0, 0)) (by (with_reducible repeat (first | refine blk_drewN ?_ _ | refine blk_drew ?_ | refine blk_alloc ?_ _)); exact BK345.out) hb); have n2_ := Aside0.mk (blk_below (g := gb346) (o := .cells #[.int .u32 a4_0, .int .u8 a4_1, .int .i64 a4_2, .int .i64 a4_3, .int .i64 a4_4] 28 (0, 0)) (by (with_reducible repeat (first | refine blk_drewN ?_ _ | refine blk_drew ?_ | refine blk_alloc ?_ _)); exact BK346.out) hb); have n3_ := Aside0.mk (below_step (by repeat (first | (with_reducible first | exact HB.out | apply below_alloc | apply pw_below_drewN | apply below_drew1 | refine below_set ?_ GE344.out | refine below_set ?_ GE345.out | refine below_set ?_ GE346.out) | exact HB.out)) hb); clear BK344; clear BK345; clear BK346; clear HB; have BK344 := n0_; have BK345 := n1_; have BK346 := n2_; have HB := n3_; clear n0_ n1_ n2_ n3_; (try clear hb); (try clear hb2); (try clear hk); (try clear hi)))
        go_meet
        case rel => exact ⟨_, (t352), (by first | rfl | (simp; done) | (simp [*]; done)), H', ⟨by have := HJ8.out; first | omega | exact Nat.le_refl _⟩, ⟨by (with_reducible repeat (first | refine blk_drewN ?_ _ | refine blk_drew ?_ | refine blk_alloc ?_ _)); exact BK344.out⟩, ⟨by (with_reducible repeat (first | refine blk_drewN ?_ _ | refine blk_drew ?_ | refine blk_alloc ?_ _)); exact BK345.out⟩, ⟨by (with_reducible repeat (first | refine blk_drewN ?_ _ | refine blk_drew ?_ | refine blk_alloc ?_ _)); exact BK346.out⟩, ⟨by repeat (first | (with_reducible first | exact HB.out | apply below_alloc | apply pw_below_drewN | apply below_drew1 | refine below_set ?_ GE344.out | refine below_set ?_ GE345.out | refine below_set ?_ GE346.out) | exact HB.out)⟩⟩
     case rest =>
      clear HC57
      try clear c3
      try clear c4
      try clear c5
      try clear c6
      try clear c7
      try clear c22
      try clear c23
      try clear c24
      try clear c26
      try clear c27
      try clear c29
      try clear c33
      try clear c33b0
      try clear c33b1
      try clear c34
      try clear c34b0
      try clear c34b1
      try clear c36
      try clear c37
      try clear c39
      try clear c43
      try clear c43b0
      try clear c43b1
      try clear c45
      try clear c46
      try clear c48
      try clear c52
      try clear c53
      try clear c55
      try clear c58
      try clear c58b0
      try clear c58b1
      try clear c59
      try clear c60
      try clear c62
      try clear c62b0
      try clear c62b1
      try clear c63
      try clear c64
      try clear c66
      try clear c69
      try clear c70
      try clear c72
      try clear hcz28_0
      try clear hcz28_1
      try clear hcz28_2
      try clear hcz30_0
      try clear hcz30_1
      try clear hcz30_2
      try clear hcz30_3
      try clear hcz30_4
      try clear hcz31_0
      try clear hcz31_1
      try clear hcz31_2
      try clear hcz31_3
      try clear hcz31_4
      try clear hcz38_0
      try clear hcz38_1
      try clear hcz38_2
      try clear hcz38_3
      try clear hcz38_4
      try clear hcz40_0
      try clear hcz40_1
      try clear hcz40_2
      try clear hcz41_0
      try clear hcz41_1
      try clear hcz41_2
      try clear hcz41_3
      try clear hcz41_4
      try clear hcz47_0
      try clear hcz47_1
      try clear hcz47_2
      try clear hcz47_3
      try clear hcz47_4
      try clear hcz49_0
      try clear hcz49_1
      try clear hcz49_2
      try clear hcz49_3
      try clear hcz49_4
      try clear hcz50_0
      try clear hcz50_1
      try clear hcz50_2
      try clear hcz54_0
      try clear hcz54_1
      try clear hcz54_2
      try clear hcz54_3
      try clear hcz54_4
      try clear hcz56_0
      try clear hcz56_1
      try clear hcz56_2
      try clear hcz56_3
      try clear hcz56_4
      try clear hcz61_0
      try clear hcz61_1
      try clear hcz61_2
      try clear hcz61_3
      try clear hcz61_4
      try clear hcz65_0
      try clear hcz65_1
      try clear hcz65_2
      try clear hcz65_3
      try clear hcz65_4
      try clear hcz67_0
      try clear hcz67_1
      try clear hcz67_2
      try clear hcz67_3
      try clear hcz67_4
      try clear hcz71_0
      try clear hcz71_1
      try clear hcz71_2
      try clear hcz71_3
      try clear hcz71_4
      try clear hcz73_0
      try clear hcz73_1
      try clear hcz73_2
      try clear hcz73_3
      try clear hcz73_4
      try clear hcz74_0
      try clear hcz74_1
      try clear hcz74_2
      try clear hfz28_0
      try clear hfz28_1
      try clear hfz28_2
      try clear hfz30_0
      try clear hfz30_1
      try clear hfz30_2
      try clear hfz30_3
      try clear hfz30_4
      try clear hfz31_0
      try clear hfz31_1
      try clear hfz31_2
      try clear hfz31_3
      try clear hfz31_4
      try clear hfz38_0
      try clear hfz38_1
      try clear hfz38_2
      try clear hfz38_3
      try clear hfz38_4
      try clear hfz40_0
      try clear hfz40_1
      try clear hfz40_2
      try clear hfz41_0
      try clear hfz41_1
      try clear hfz41_2
      try clear hfz41_3
      try clear hfz41_4
      try clear hfz47_0
      try clear hfz47_1
      try clear hfz47_2
      try clear hfz47_3
      try clear hfz47_4
      try clear hfz49_0
      try clear hfz49_1
      try clear hfz49_2
      try clear hfz49_3
      try clear hfz49_4
      try clear hfz50_0
      try clear hfz50_1
      try clear hfz50_2
      try clear hfz54_0
      try clear hfz54_1
      try clear hfz54_2
      try clear hfz54_3
      try clear hfz54_4
      try clear hfz56_0
      try clear hfz56_1
      try clear hfz56_2
      try clear hfz56_3
      try clear hfz56_4
      try clear hfz61_0
      try clear hfz61_1
      try clear hfz61_2
      try clear hfz61_3
      try clear hfz61_4
      try clear hfz65_0
      try clear hfz65_1
      try clear hfz65_2
      try clear hfz65_3
      try clear hfz65_4
      try clear hfz67_0
      try clear hfz67_1
      try clear hfz67_2
      try clear hfz67_3
      try clear hfz67_4
      try clear hfz71_0
      try clear hfz71_1
      try clear hfz71_2
      try clear hfz71_3
      try clear hfz71_4
      try clear hfz73_0
      try clear hfz73_1
      try clear hfz73_2
      try clear hfz73_3
      try clear hfz73_4
      try clear hfz74_0
      try clear hfz74_1
      try clear hfz74_2
      obtain ⟨kq, x70_56, rfl, HA, HJ56, BK344, BK345, BK346, HB⟩ := hcut
      cases kq with
      | zero => exact absurd HA.out (by simp [horariumref15_Never.j1])
      | succ kj56 =>
       have H := HA.out
       clear HA
       simp only [horariumref15_Never.j1] at H
       by_cases c76 : x70_56 = true
       ·
        subst c76
        have H1 : (if a1 = 14 then (if a3_0 = 0 then (some false) else (if a4_0 = 0 then (some false) else ((horariumref15_Holds.f kj56 a0_0 a0_1 a0_2 a1 a2 a3_0 a3_1 a3_2 a3_3 a3_4 a4_0 a4_1 a4_2 a4_3 a4_4 0).bind fun t353 => (some (!t353))))) else (some false)) = some r := by rw [if_pos rfl] at H; exact H
        clear H
        have H := H1
        clear H1
        by_cases c77 : a1 = 14
        ·
         rw [if_pos c77] at H
         have c77b0 : (a1 == 14) = true := beq_iff_eq.mpr c77
         have c77b1 : (a1 != 14) = false := bne_eq_false_iff_eq.mpr c77
         clear c77
         by_cases c78 : a3_0 = 0
         ·
          rw [if_pos c78] at H
          have c78b0 : (a3_0 == 0) = true := beq_iff_eq.mpr c78
          have c78b1 : (a3_0 != 0) = false := bne_eq_false_iff_eq.mpr c78
          clear c78
          obtain rfl := Option.some.inj H
          have hnb79 := NB345_344.out
          have hnc79 := NB344_345.out
          have hnb80 := NB345_346.out
          have hnc80 := NB346_345.out
          have hcz81_0 : wc.cell? ⟨gb345, 0, none⟩ = some (.int .u32 a3_0) := (blk_cell BK345.out 0).trans rfl
          have hcz81_1 : wc.cell? ⟨gb345, 1, none⟩ = some (.int .u8 a3_1) := (blk_cell BK345.out 1).trans rfl
          have hcz81_2 : wc.cell? ⟨gb345, 2, none⟩ = some (.int .i64 a3_2) := (blk_cell BK345.out 2).trans rfl
          have hcz81_3 : wc.cell? ⟨gb345, 3, none⟩ = some (.int .i64 a3_3) := (blk_cell BK345.out 3).trans rfl
          have hcz81_4 : wc.cell? ⟨gb345, 4, none⟩ = some (.int .i64 a3_4) := (blk_cell BK345.out 4).trans rfl
          have hfz81_0 := blk_frozen BK345.out 0
          have hfz81_1 := blk_frozen BK345.out 1
          have hfz81_2 := blk_frozen BK345.out 2
          have hfz81_3 := blk_frozen BK345.out 3
          have hfz81_4 := blk_frozen BK345.out 4
          go_wp2
          go_ret
          exact ⟨by first | rfl | (simp [errW_none, errW_some] <;> rfl) | (simp [*, errW_none, errW_some] <;> rfl), by repeat (first | (with_reducible first | exact HB.out | apply below_alloc | apply pw_below_drewN | apply below_drew1 | refine below_set ?_ GE344.out | refine below_set ?_ GE345.out | refine below_set ?_ GE346.out) | exact HB.out)⟩
         ·
          rw [if_neg c78] at H
          have c78b0 : (a3_0 == 0) = false := beq_eq_false_iff_ne.mpr c78
          have c78b1 : (a3_0 != 0) = true := bne_iff_ne.mpr c78
          by_cases c82 : a4_0 = 0
          ·
           rw [if_pos c82] at H
           have c82b0 : (a4_0 == 0) = true := beq_iff_eq.mpr c82
           have c82b1 : (a4_0 != 0) = false := bne_eq_false_iff_eq.mpr c82
           clear c82
           obtain rfl := Option.some.inj H
           have hnb83 := NB345_344.out
           have hnc83 := NB344_345.out
           have hnb84 := NB345_346.out
           have hnc84 := NB346_345.out
           have hcz85_0 : wc.cell? ⟨gb345, 0, none⟩ = some (.int .u32 a3_0) := (blk_cell BK345.out 0).trans rfl
           have hcz85_1 : wc.cell? ⟨gb345, 1, none⟩ = some (.int .u8 a3_1) := (blk_cell BK345.out 1).trans rfl
           have hcz85_2 : wc.cell? ⟨gb345, 2, none⟩ = some (.int .i64 a3_2) := (blk_cell BK345.out 2).trans rfl
           have hcz85_3 : wc.cell? ⟨gb345, 3, none⟩ = some (.int .i64 a3_3) := (blk_cell BK345.out 3).trans rfl
           have hcz85_4 : wc.cell? ⟨gb345, 4, none⟩ = some (.int .i64 a3_4) := (blk_cell BK345.out 4).trans rfl
           have hfz85_0 := blk_frozen BK345.out 0
           have hfz85_1 := blk_frozen BK345.out 1
           have hfz85_2 := blk_frozen BK345.out 2
           have hfz85_3 := blk_frozen BK345.out 3
           have hfz85_4 := blk_frozen BK345.out 4
           have hnb86 := NB346_344.out
           have hnc86 := NB344_346.out
           have hcz87_0 : wc.cell? ⟨gb346, 0, none⟩ = some (.int .u32 a4_0) := (blk_cell BK346.out 0).trans rfl
           have hcz87_1 : wc.cell? ⟨gb346, 1, none⟩ = some (.int .u8 a4_1) := (blk_cell BK346.out 1).trans rfl
           have hcz87_2 : wc.cell? ⟨gb346, 2, none⟩ = some (.int .i64 a4_2) := (blk_cell BK346.out 2).trans rfl
           have hcz87_3 : wc.cell? ⟨gb346, 3, none⟩ = some (.int .i64 a4_3) := (blk_cell BK346.out 3).trans rfl
           have hcz87_4 : wc.cell? ⟨gb346, 4, none⟩ = some (.int .i64 a4_4) := (blk_cell BK346.out 4).trans rfl
           have hfz87_0 := blk_frozen BK346.out 0
           have hfz87_1 := blk_frozen BK346.out 1
           have hfz87_2 := blk_frozen BK346.out 2
           have hfz87_3 := blk_frozen BK346.out 3
           have hfz87_4 := blk_frozen BK346.out 4
           go_wp2
           go_ret
           exact ⟨by first | rfl | (simp [errW_none, errW_some] <;> rfl) | (simp [*, errW_none, errW_some] <;> rfl), by repeat (first | (with_reducible first | exact HB.out | apply below_alloc | apply pw_below_drewN | apply below_drew1 | refine below_set ?_ GE344.out | refine below_set ?_ GE345.out | refine below_set ?_ GE346.out) | exact HB.out)⟩
          ·
           rw [if_neg c82] at H
           have c82b0 : (a4_0 == 0) = false := beq_eq_false_iff_ne.mpr c82
           have c82b1 : (a4_0 != 0) = true := bne_iff_ne.mpr c82
           replace H := Option.bind_eq_some_iff.mp H
           obtain ⟨t353, A880, H⟩ := H
           replace H : (some (!t353)) = some r := H
           have A88 := Aside0.mk A880
           clear A880
           obtain rfl := Option.some.inj H
           have hnb89 := NB345_344.out
           have hnc89 := NB344_345.out
           have hnb90 := NB345_346.out
           have hnc90 := NB346_345.out
           have hcz91_0 : wc.cell? ⟨gb345, 0, none⟩ = some (.int .u32 a3_0) := (blk_cell BK345.out 0).trans rfl
           have hcz91_1 : wc.cell? ⟨gb345, 1, none⟩ = some (.int .u8 a3_1) := (blk_cell BK345.out 1).trans rfl
           have hcz91_2 : wc.cell? ⟨gb345, 2, none⟩ = some (.int .i64 a3_2) := (blk_cell BK345.out 2).trans rfl
           have hcz91_3 : wc.cell? ⟨gb345, 3, none⟩ = some (.int .i64 a3_3) := (blk_cell BK345.out 3).trans rfl
           have hcz91_4 : wc.cell? ⟨gb345, 4, none⟩ = some (.int .i64 a3_4) := (blk_cell BK345.out 4).trans rfl
           have hfz91_0 := blk_frozen BK345.out 0
           have hfz91_1 := blk_frozen BK345.out 1
           have hfz91_2 := blk_frozen BK345.out 2
           have hfz91_3 := blk_frozen BK345.out 3
           have hfz91_4 := blk_frozen BK345.out 4
           have hnb92 := NB346_344.out
           have hnc92 := NB344_346.out
           have hcz93_0 : wc.cell? ⟨gb346, 0, none⟩ = some (.int .u32 a4_0) := (blk_cell BK346.out 0).trans rfl
           have hcz93_1 : wc.cell? ⟨gb346, 1, none⟩ = some (.int .u8 a4_1) := (blk_cell BK346.out 1).trans rfl
           have hcz93_2 : wc.cell? ⟨gb346, 2, none⟩ = some (.int .i64 a4_2) := (blk_cell BK346.out 2).trans rfl
           have hcz93_3 : wc.cell? ⟨gb346, 3, none⟩ = some (.int .i64 a4_3) := (blk_cell BK346.out 3).trans rfl
           have hcz93_4 : wc.cell? ⟨gb346, 4, none⟩ = some (.int .i64 a4_4) := (blk_cell BK346.out 4).trans rfl
           have hfz93_0 := blk_frozen BK346.out 0
           have hfz93_1 := blk_frozen BK346.out 1
           have hfz93_2 := blk_frozen BK346.out 2
           have hfz93_3 := blk_frozen BK346.out 3
           have hfz93_4 := blk_frozen BK346.out 4
           have hcz94_0 : wc.cell? ⟨gb344, 0, none⟩ = some (.int .i64 a0_0) := (blk_cell BK344.out 0).trans rfl
           have hcz94_1 : wc.cell? ⟨gb344, 1, none⟩ = some (.int .i64 a0_1) := (blk_cell BK344.out 1).trans rfl
           have hcz94_2 : wc.cell? ⟨gb344, 2, none⟩ = some (.int .i64 a0_2) := (blk_cell BK344.out 2).trans rfl
           have hfz94_0 := blk_frozen BK344.out 0
           have hfz94_1 := blk_frozen BK344.out 1
           have hfz94_2 := blk_frozen BK344.out 2
           go_wp2_with (first | (go_at_call 12; (with_reducible refine (horariumref15_Holds.calls kj56 a0_0 a0_1 a0_2 a1 a2 a3_0 a3_1 a3_2 a3_3 a3_4 a4_0 a4_1 a4_2 a4_3 a4_4 0 t353 _ A88.out).mono ?_); rintro e w95 ⟨rfl, hb⟩; have n0_ := Aside0.mk (blk_below (g := gb344) (o := .cells #[.int .i64 a0_0, .int .i64 a0_1, .int .i64 a0_2] 23 (0, 0)) (by (with_reducible repeat (first | refine blk_drewN ?_ _ | refine blk_drew ?_ | refine blk_alloc ?_ _)); exact BK344.out) hb); have n1_ := Aside0.mk (blk_below (g := gb345) (o := .cells #[.int .u32 a3_0, .int .u8 a3_1, .int .i64 a3_2, .int .i64 a3_3, .int .i64 a3_4] 28 (0, 0)) (by (with_reducible repeat (first | refine blk_drewN ?_ _ | refine blk_drew ?_ | refine blk_alloc ?_ _)); exact BK345.out) hb); have n2_ := Aside0.mk (blk_below (g := gb346) (o := .cells #[.int .u32 a4_0, .int .u8 a4_1, .int .i64 a4_2, .int .i64 a4_3, .int .i64 a4_4] 28 (0, 0)) (by (with_reducible repeat (first | refine blk_drewN ?_ _ | refine blk_drew ?_ | refine blk_alloc ?_ _)); exact BK346.out) hb); have n3_ := Aside0.mk (below_step (by repeat (first | (with_reducible first | exact HB.out | apply below_alloc | apply pw_below_drewN | apply below_drew1 | refine below_set ?_ GE344.out | refine below_set ?_ GE345.out | refine below_set ?_ GE346.out) | exact HB.out)) hb); clear BK344; clear BK345; clear BK346; clear HB; have BK344 := n0_; have BK345 := n1_; have BK346 := n2_; have HB := n3_; clear n0_ n1_ n2_ n3_; (try clear hb); (try clear hb2); (try clear hk); (try clear hi)))
           go_ret
           exact ⟨by first | rfl | (simp [errW_none, errW_some] <;> rfl) | (simp [*, errW_none, errW_some] <;> rfl), by repeat (first | (with_reducible first | exact HB.out | apply below_alloc | apply pw_below_drewN | apply below_drew1 | refine below_set ?_ GE344.out | refine below_set ?_ GE345.out | refine below_set ?_ GE346.out) | exact HB.out)⟩
        ·
         rw [if_neg c77] at H
         have c77b0 : (a1 == 14) = false := beq_eq_false_iff_ne.mpr c77
         have c77b1 : (a1 != 14) = true := bne_iff_ne.mpr c77
         obtain rfl := Option.some.inj H
         go_wp2
         go_ret
         exact ⟨by first | rfl | (simp [errW_none, errW_some] <;> rfl) | (simp [*, errW_none, errW_some] <;> rfl), by repeat (first | (with_reducible first | exact HB.out | apply below_alloc | apply pw_below_drewN | apply below_drew1 | refine below_set ?_ GE344.out | refine below_set ?_ GE345.out | refine below_set ?_ GE346.out) | exact HB.out)⟩
       ·
        replace c76 := Bool.eq_false_iff.mpr c76
        subst c76
        have H1 : (if a1 = 14 then (if x13_8 = true then (some true) else ((horariumref15_Holds.f kj56 a0_0 a0_1 a0_2 a1 a2 a3_0 a3_1 a3_2 a3_3 a3_4 a4_0 a4_1 a4_2 a4_3 a4_4 0).bind fun t354 => (some (!t354)))) else (some true)) = some r := by rw [if_neg (show ¬ (false = true) by decide)] at H; exact H
        clear H
        have H := H1
        clear H1
        by_cases c96 : a1 = 14
        ·
         rw [if_pos c96] at H
         have c96b0 : (a1 == 14) = true := beq_iff_eq.mpr c96
         have c96b1 : (a1 != 14) = false := bne_eq_false_iff_eq.mpr c96
         clear c96
         by_cases c97 : x13_8 = true
         ·
          subst c97
          have H1 : (some true) = some r := by rw [if_pos rfl] at H; exact H
          clear H
          have H := H1
          clear H1
          obtain rfl := Option.some.inj H
          go_wp2
          go_ret
          exact ⟨by first | rfl | (simp [errW_none, errW_some] <;> rfl) | (simp [*, errW_none, errW_some] <;> rfl), by repeat (first | (with_reducible first | exact HB.out | apply below_alloc | apply pw_below_drewN | apply below_drew1 | refine below_set ?_ GE344.out | refine below_set ?_ GE345.out | refine below_set ?_ GE346.out) | exact HB.out)⟩
         ·
          replace c97 := Bool.eq_false_iff.mpr c97
          subst c97
          have H1 : ((horariumref15_Holds.f kj56 a0_0 a0_1 a0_2 a1 a2 a3_0 a3_1 a3_2 a3_3 a3_4 a4_0 a4_1 a4_2 a4_3 a4_4 0).bind fun t354 => (some (!t354))) = some r := by rw [if_neg (show ¬ (false = true) by decide)] at H; exact H
          clear H
          have H := H1
          clear H1
          replace H := Option.bind_eq_some_iff.mp H
          obtain ⟨t354, A980, H⟩ := H
          replace H : (some (!t354)) = some r := H
          have A98 := Aside0.mk A980
          clear A980
          obtain rfl := Option.some.inj H
          have hnb99 := NB344_345.out
          have hnc99 := NB345_344.out
          have hnb100 := NB344_346.out
          have hnc100 := NB346_344.out
          have hcz101_0 : wc.cell? ⟨gb344, 0, none⟩ = some (.int .i64 a0_0) := (blk_cell BK344.out 0).trans rfl
          have hcz101_1 : wc.cell? ⟨gb344, 1, none⟩ = some (.int .i64 a0_1) := (blk_cell BK344.out 1).trans rfl
          have hcz101_2 : wc.cell? ⟨gb344, 2, none⟩ = some (.int .i64 a0_2) := (blk_cell BK344.out 2).trans rfl
          have hfz101_0 := blk_frozen BK344.out 0
          have hfz101_1 := blk_frozen BK344.out 1
          have hfz101_2 := blk_frozen BK344.out 2
          have hnb102 := NB345_346.out
          have hnc102 := NB346_345.out
          have hcz103_0 : wc.cell? ⟨gb345, 0, none⟩ = some (.int .u32 a3_0) := (blk_cell BK345.out 0).trans rfl
          have hcz103_1 : wc.cell? ⟨gb345, 1, none⟩ = some (.int .u8 a3_1) := (blk_cell BK345.out 1).trans rfl
          have hcz103_2 : wc.cell? ⟨gb345, 2, none⟩ = some (.int .i64 a3_2) := (blk_cell BK345.out 2).trans rfl
          have hcz103_3 : wc.cell? ⟨gb345, 3, none⟩ = some (.int .i64 a3_3) := (blk_cell BK345.out 3).trans rfl
          have hcz103_4 : wc.cell? ⟨gb345, 4, none⟩ = some (.int .i64 a3_4) := (blk_cell BK345.out 4).trans rfl
          have hfz103_0 := blk_frozen BK345.out 0
          have hfz103_1 := blk_frozen BK345.out 1
          have hfz103_2 := blk_frozen BK345.out 2
          have hfz103_3 := blk_frozen BK345.out 3
          have hfz103_4 := blk_frozen BK345.out 4
          have hcz104_0 : wc.cell? ⟨gb346, 0, none⟩ = some (.int .u32 a4_0) := (blk_cell BK346.out 0).trans rfl
          have hcz104_1 : wc.cell? ⟨gb346, 1, none⟩ = some (.int .u8 a4_1) := (blk_cell BK346.out 1).trans rfl
          have hcz104_2 : wc.cell? ⟨gb346, 2, none⟩ = some (.int .i64 a4_2) := (blk_cell BK346.out 2).trans rfl
          have hcz104_3 : wc.cell? ⟨gb346, 3, none⟩ = some (.int .i64 a4_3) := (blk_cell BK346.out 3).trans rfl
          have hcz104_4 : wc.cell? ⟨gb346, 4, none⟩ = some (.int .i64 a4_4) := (blk_cell BK346.out 4).trans rfl
          have hfz104_0 := blk_frozen BK346.out 0
          have hfz104_1 := blk_frozen BK346.out 1
          have hfz104_2 := blk_frozen BK346.out 2
          have hfz104_3 := blk_frozen BK346.out 3
          have hfz104_4 := blk_frozen BK346.out 4
          go_wp2_with (first | (go_at_call 12; (with_reducible refine (horariumref15_Holds.calls kj56 a0_0 a0_1 a0_2 a1 a2 a3_0 a3_1 a3_2 a3_3 a3_4 a4_0 a4_1 a4_2 a4_3 a4_4 0 t354 _ A98.out).mono ?_); rintro e w105 ⟨rfl, hb⟩; have n0_ := Aside0.mk (blk_below (g := gb344) (o := .cells #[.int .i64 a0_0, .int .i64 a0_1, .int .i64 a0_2] 23 (0, 0)) (by (with_reducible repeat (first | refine blk_drewN ?_ _ | refine blk_drew ?_ | refine blk_alloc ?_ _)); exact BK344.out) hb); have n1_ := Aside0.mk (blk_below (g := gb345) (o := .cells #[.int .u32 a3_0, .int .u8 a3_1, .int .i64 a3_2, .int .i64 a3_3, .int .i64 a3_4] 28 (0, 0)) (by (with_reducible repeat (first | refine blk_drewN ?_ _ | refine blk_drew ?_ | refine blk_alloc ?_ _)); exact BK345.out) hb); have n2_ := Aside0.mk (blk_below (g := gb346) (o := .cells #[.int .u32 a4_0, .int .u8 a4_1, .int .i64 a4_2, .int .i64 a4_3, .int .i64 a4_4] 28 (0, 0)) (by (with_reducible repeat (first | refine blk_drewN ?_ _ | refine blk_drew ?_ | refine blk_alloc ?_ _)); exact BK346.out) hb); have n3_ := Aside0.mk (below_step (by repeat (first | (with_reducible first | exact HB.out | apply below_alloc | apply pw_below_drewN | apply below_drew1 | refine below_set ?_ GE344.out | refine below_set ?_ GE345.out | refine below_set ?_ GE346.out) | exact HB.out)) hb); clear BK344; clear BK345; clear BK346; clear HB; have BK344 := n0_; have BK345 := n1_; have BK346 := n2_; have HB := n3_; clear n0_ n1_ n2_ n3_; (try clear hb); (try clear hb2); (try clear hk); (try clear hi)))
          go_ret
          exact ⟨by first | rfl | (simp [errW_none, errW_some] <;> rfl) | (simp [*, errW_none, errW_some] <;> rfl), by repeat (first | (with_reducible first | exact HB.out | apply below_alloc | apply pw_below_drewN | apply below_drew1 | refine below_set ?_ GE344.out | refine below_set ?_ GE345.out | refine below_set ?_ GE346.out) | exact HB.out)⟩
        ·
         rw [if_neg c96] at H
         have c96b0 : (a1 == 14) = false := beq_eq_false_iff_ne.mpr c96
         have c96b1 : (a1 != 14) = true := bne_iff_ne.mpr c96
         obtain rfl := Option.some.inj H
         go_wp2
         go_ret
         exact ⟨by first | rfl | (simp [errW_none, errW_some] <;> rfl) | (simp [*, errW_none, errW_some] <;> rfl), by repeat (first | (with_reducible first | exact HB.out | apply below_alloc | apply pw_below_drewN | apply below_drew1 | refine below_set ?_ GE344.out | refine below_set ?_ GE345.out | refine below_set ?_ GE346.out) | exact HB.out)⟩
 ·
  replace c8 := Bool.eq_false_iff.mpr c8
  subst c8
  have H1 : (some false) = some r := by rw [if_neg (show ¬ (false = true) by decide)] at H; exact H
  clear H
  have H := H1
  clear H1
  obtain rfl := Option.some.inj H
  go_wp2_with (first | ((with_reducible refine gate_callee (f := 22) rfl ?_); refine goesL_ (some 15) rfl rfl Try.func22 (by kernel_rfl) rfl #[.int .i64 a1] rfl (by (try simp only [List.map_toArray, List.map_cons, List.map_nil]); first | done | rfl | (simp only [List.length_drop, List.length_take]; rfl)) ?_; (with_reducible refine (horariumref15_Known.calls a1 false _ A7.out).mono ?_); rintro e w' ⟨rfl, ⟨nd, rfl⟩⟩; refine ⟨_, rfl, ?_⟩))
  go_ret
  exact ⟨by first | rfl | (simp [errW_none, errW_some] <;> rfl) | (simp [*, errW_none, errW_some] <;> rfl), by repeat (first | (with_reducible first | exact HB.out | apply below_alloc | apply pw_below_drewN | apply below_drew1 | refine below_set ?_ GE344.out | refine below_set ?_ GE345.out | refine below_set ?_ GE346.out) | exact HB.out)⟩

end Go.Proofs.Ytddheiloodfkdaa.Q
