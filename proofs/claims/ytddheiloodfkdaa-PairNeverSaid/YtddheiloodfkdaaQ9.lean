-- Written by a program of this claim's prover; Lean checks it.
import Derived.Test.YtddheiloodfkdaaQ0
import Derived.Test.YtddheiloodfkdaaQ1
import Derived.Test.YtddheiloodfkdaaQ8
namespace Go.Proofs.Ytddheiloodfkdaa.Q
open Go.RowKit Go.Proofs.YtddheiloodfkdaaW.PrintWords Go.Proofs.YtddheiloodfkdaaW.PrintLast Go.Proofs.YtddheiloodfkdaaW.PrintMore
attribute [local go_sem] max2_int min2_int max_two min_two max_three min_three max_four min_four   -- for this text's walks alone
set_option linter.unusedVariables false
set_option linter.unusedSimpArgs false

/-! ### pair_Never: function 15 -/
mutual
def pair_Never.j0 : Nat → Int → Int → Int → Bool → Bool → Bool → Int → Int → Int → Int → Int → Int → Int → Int → Int → Int → Int → Int → Int → Option (Bool)
  | 0, _, _, _, _, _, _, _, _, _, _, _, _, _, _, _, _, _, _, _ => none
  | k + 1, x1, x2, x5, x13, x14, x15, x180000, x180001, x180002, x181000, x181001, x181002, x181003, x181004, x182000, x182001, x182002, x182003, x182004 => if x181004 = (-2) then (pair_Never.j1 k x1 x2 x5 x13 x14 x15 false x180000 x180001 x180002 x181000 x181001 x181002 x181003 x181004 x182000 x182001 x182002 x182003 x182004) else (pair_Never.j1 k x1 x2 x5 x13 x14 x15 (x182004 != (-2)) x180000 x180001 x180002 x181000 x181001 x181002 x181003 x181004 x182000 x182001 x182002 x182003 x182004)
def pair_Never.j1 : Nat → Int → Int → Int → Bool → Bool → Bool → Bool → Int → Int → Int → Int → Int → Int → Int → Int → Int → Int → Int → Int → Int → Option (Bool)
  | 0, _, _, _, _, _, _, _, _, _, _, _, _, _, _, _, _, _, _, _, _ => none
  | k + 1, x1, x2, x5, x13, x14, x15, x16, x180000, x180001, x180002, x181000, x181001, x181002, x181003, x181004, x182000, x182001, x182002, x182003, x182004 => (pair_Holds.f k x180000 x180001 x180002 x1 x2 x181000 x181001 x181002 x181003 x181004 x182000 x182001 x182002 x182003 x182004 x5).bind fun t184 => (if x13 = true then (pair_Never.j2 k x1 x2 x13 x14 x15 x16 t184 x14 x180000 x180001 x180002 x181000 x181001 x181002 x181003 x181004 x182000 x182001 x182002 x182003 x182004) else (pair_Never.j2 k x1 x2 x13 x14 x15 x16 t184 false x180000 x180001 x180002 x181000 x181001 x181002 x181003 x181004 x182000 x182001 x182002 x182003 x182004))
def pair_Never.j2 : Nat → Int → Int → Bool → Bool → Bool → Bool → Bool → Bool → Int → Int → Int → Int → Int → Int → Int → Int → Int → Int → Int → Int → Int → Option (Bool)
  | 0, _, _, _, _, _, _, _, _, _, _, _, _, _, _, _, _, _, _, _, _, _ => none
  | k + 1, x1, x2, x13, x14, x15, x16, x17, x49, x180000, x180001, x180002, x181000, x181001, x181002, x181003, x181004, x182000, x182001, x182002, x182003, x182004 => if x49 = true then (if x15 = true then ((pair_Holds.f k x180000 x180001 x180002 x1 x2 x181000 x181001 x181002 x181003 x181004 x182000 x182001 x182002 x182003 x182004 0).bind fun t185 => (if t185 = true then (if x17 = true then (some false) else (some x16)) else (some true))) else (some false)) else (if x13 = true then (if x15 = true then (some (!x17)) else (some false)) else (if x14 = true then (if x181004 = (-1) then (if x16 = true then (some (!x17)) else (if x1 = 10 then (some (!x17)) else (some false))) else (if x16 = true then (some (!x17)) else (if x182004 = (-1) then (if x1 = 10 then (some (!x17)) else (some false)) else (some false)))) else (some false)))
end
def pair_Never.f (k : Nat) (a0_0 : Int) (a0_1 : Int) (a0_2 : Int) (a1 : Int) (a2 : Int) (a3_0 : Int) (a3_1 : Int) (a3_2 : Int) (a3_3 : Int) (a3_4 : Int) (a4_0 : Int) (a4_1 : Int) (a4_2 : Int) (a4_3 : Int) (a4_4 : Int) (a5 : Int) : Option (Bool) := (pair_Needs.f k a1).bind fun bt182 => (if a3_0 = 0 then (pair_Never.j0 k a1 a2 a5 bt182.1 bt182.2 false a0_0 a0_1 a0_2 a3_0 a3_1 a3_2 a3_3 a3_4 a4_0 a4_1 a4_2 a4_3 a4_4) else (pair_Never.j0 k a1 a2 a5 bt182.1 bt182.2 (a4_0 != 0) a0_0 a0_1 a0_2 a3_0 a3_1 a3_2 a3_3 a3_4 a4_0 a4_1 a4_2 a4_3 a4_4))
theorem pair_Never.mono_l : ∀ k, (∀ y0 y1 y2 y3 y4 y5 y6 y7 y8 y9 y10 y11 y12 y13 y14 y15 y16 y17 y18, LeO (pair_Never.j0 k y0 y1 y2 y3 y4 y5 y6 y7 y8 y9 y10 y11 y12 y13 y14 y15 y16 y17 y18) (pair_Never.j0 (k + 1) y0 y1 y2 y3 y4 y5 y6 y7 y8 y9 y10 y11 y12 y13 y14 y15 y16 y17 y18)) ∧ (∀ y0 y1 y2 y3 y4 y5 y6 y7 y8 y9 y10 y11 y12 y13 y14 y15 y16 y17 y18 y19, LeO (pair_Never.j1 k y0 y1 y2 y3 y4 y5 y6 y7 y8 y9 y10 y11 y12 y13 y14 y15 y16 y17 y18 y19) (pair_Never.j1 (k + 1) y0 y1 y2 y3 y4 y5 y6 y7 y8 y9 y10 y11 y12 y13 y14 y15 y16 y17 y18 y19)) ∧ (∀ y0 y1 y2 y3 y4 y5 y6 y7 y8 y9 y10 y11 y12 y13 y14 y15 y16 y17 y18 y19 y20, LeO (pair_Never.j2 k y0 y1 y2 y3 y4 y5 y6 y7 y8 y9 y10 y11 y12 y13 y14 y15 y16 y17 y18 y19 y20) (pair_Never.j2 (k + 1) y0 y1 y2 y3 y4 y5 y6 y7 y8 y9 y10 y11 y12 y13 y14 y15 y16 y17 y18 y19 y20))
  | 0 => ⟨fun _ _ _ _ _ _ _ _ _ _ _ _ _ _ _ _ _ _ _ r h => by simp [pair_Never.j0] at h, fun _ _ _ _ _ _ _ _ _ _ _ _ _ _ _ _ _ _ _ _ r h => by simp [pair_Never.j1] at h, fun _ _ _ _ _ _ _ _ _ _ _ _ _ _ _ _ _ _ _ _ _ r h => by simp [pair_Never.j2] at h⟩
  | k + 1 => by
    obtain ⟨ih0, ih1, ih2⟩ := pair_Never.mono_l k
    refine ⟨?_, ?_, ?_⟩
    · intro y0 y1 y2 y3 y4 y5 y6 y7 y8 y9 y10 y11 y12 y13 y14 y15 y16 y17 y18
      unfold pair_Never.j0
      repeat' first
      | (with_reducible exact ih0 _ _ _ _ _ _ _ _ _ _ _ _ _ _ _ _ _ _ _)
      | (with_reducible exact ih1 _ _ _ _ _ _ _ _ _ _ _ _ _ _ _ _ _ _ _ _)
      | (with_reducible exact ih2 _ _ _ _ _ _ _ _ _ _ _ _ _ _ _ _ _ _ _ _ _)
      | (with_reducible exact pair_Holds.mono _ _ _ _ _ _ _ _ _ _ _ _ _ _ _ _ _)
      | (with_reducible exact pair_Needs.mono _ _)
      | (with_reducible exact LeO.refl _)
      | (with_reducible exact LeO.none _)
      | (with_reducible refine LeO.ite ?_ ?_)
      | (with_reducible refine LeO.bind ?_ (fun _ => ?_))
      | exact ih0 _ _ _ _ _ _ _ _ _ _ _ _ _ _ _ _ _ _ _
      | exact ih1 _ _ _ _ _ _ _ _ _ _ _ _ _ _ _ _ _ _ _ _
      | exact ih2 _ _ _ _ _ _ _ _ _ _ _ _ _ _ _ _ _ _ _ _ _
      | exact pair_Holds.mono _ _ _ _ _ _ _ _ _ _ _ _ _ _ _ _ _
      | exact pair_Needs.mono _ _
      | exact LeO.none _
      | refine LeO.ite ?_ ?_
      | refine LeO.bind ?_ (fun _ => ?_)
    · intro y0 y1 y2 y3 y4 y5 y6 y7 y8 y9 y10 y11 y12 y13 y14 y15 y16 y17 y18 y19
      unfold pair_Never.j1
      repeat' first
      | (with_reducible exact ih0 _ _ _ _ _ _ _ _ _ _ _ _ _ _ _ _ _ _ _)
      | (with_reducible exact ih1 _ _ _ _ _ _ _ _ _ _ _ _ _ _ _ _ _ _ _ _)
      | (with_reducible exact ih2 _ _ _ _ _ _ _ _ _ _ _ _ _ _ _ _ _ _ _ _ _)
      | (with_reducible exact pair_Holds.mono _ _ _ _ _ _ _ _ _ _ _ _ _ _ _ _ _)
      | (with_reducible exact pair_Needs.mono _ _)
      | (with_reducible exact LeO.refl _)
      | (with_reducible exact LeO.none _)
      | (with_reducible refine LeO.ite ?_ ?_)
      | (with_reducible refine LeO.bind ?_ (fun _ => ?_))
      | exact ih0 _ _ _ _ _ _ _ _ _ _ _ _ _ _ _ _ _ _ _
      | exact ih1 _ _ _ _ _ _ _ _ _ _ _ _ _ _ _ _ _ _ _ _
      | exact ih2 _ _ _ _ _ _ _ _ _ _ _ _ _ _ _ _ _ _ _ _ _
      | exact pair_Holds.mono _ _ _ _ _ _ _ _ _ _ _ _ _ _ _ _ _
      | exact pair_Needs.mono _ _
      | exact LeO.none _
      | refine LeO.ite ?_ ?_
      | refine LeO.bind ?_ (fun _ => ?_)
    · intro y0 y1 y2 y3 y4 y5 y6 y7 y8 y9 y10 y11 y12 y13 y14 y15 y16 y17 y18 y19 y20
      unfold pair_Never.j2
      repeat' first
      | (with_reducible exact ih0 _ _ _ _ _ _ _ _ _ _ _ _ _ _ _ _ _ _ _)
      | (with_reducible exact ih1 _ _ _ _ _ _ _ _ _ _ _ _ _ _ _ _ _ _ _ _)
      | (with_reducible exact ih2 _ _ _ _ _ _ _ _ _ _ _ _ _ _ _ _ _ _ _ _ _)
      | (with_reducible exact pair_Holds.mono _ _ _ _ _ _ _ _ _ _ _ _ _ _ _ _ _)
      | (with_reducible exact pair_Needs.mono _ _)
      | (with_reducible exact LeO.refl _)
      | (with_reducible exact LeO.none _)
      | (with_reducible refine LeO.ite ?_ ?_)
      | (with_reducible refine LeO.bind ?_ (fun _ => ?_))
      | exact ih0 _ _ _ _ _ _ _ _ _ _ _ _ _ _ _ _ _ _ _
      | exact ih1 _ _ _ _ _ _ _ _ _ _ _ _ _ _ _ _ _ _ _ _
      | exact ih2 _ _ _ _ _ _ _ _ _ _ _ _ _ _ _ _ _ _ _ _ _
      | exact pair_Holds.mono _ _ _ _ _ _ _ _ _ _ _ _ _ _ _ _ _
      | exact pair_Needs.mono _ _
      | exact LeO.none _
      | refine LeO.ite ?_ ?_
      | refine LeO.bind ?_ (fun _ => ?_)
theorem pair_Never.mono : ∀ a0 a1 a2 a3 a4 a5 a6 a7 a8 a9 a10 a11 a12 a13 a14 a15 k, LeO (pair_Never.f k a0 a1 a2 a3 a4 a5 a6 a7 a8 a9 a10 a11 a12 a13 a14 a15) (pair_Never.f (k + 1) a0 a1 a2 a3 a4 a5 a6 a7 a8 a9 a10 a11 a12 a13 a14 a15) := by
  intro a0 a1 a2 a3 a4 a5 a6 a7 a8 a9 a10 a11 a12 a13 a14 a15 k
  obtain ⟨ih0, ih1, ih2⟩ := pair_Never.mono_l k
  unfold pair_Never.f
  repeat' first
      | (with_reducible exact ih0 _ _ _ _ _ _ _ _ _ _ _ _ _ _ _ _ _ _ _)
      | (with_reducible exact ih1 _ _ _ _ _ _ _ _ _ _ _ _ _ _ _ _ _ _ _ _)
      | (with_reducible exact ih2 _ _ _ _ _ _ _ _ _ _ _ _ _ _ _ _ _ _ _ _ _)
      | (with_reducible exact pair_Holds.mono _ _ _ _ _ _ _ _ _ _ _ _ _ _ _ _ _)
      | (with_reducible exact pair_Needs.mono _ _)
      | (with_reducible exact LeO.refl _)
      | (with_reducible exact LeO.none _)
      | (with_reducible refine LeO.ite ?_ ?_)
      | (with_reducible refine LeO.bind ?_ (fun _ => ?_))
      | exact ih0 _ _ _ _ _ _ _ _ _ _ _ _ _ _ _ _ _ _ _
      | exact ih1 _ _ _ _ _ _ _ _ _ _ _ _ _ _ _ _ _ _ _ _
      | exact ih2 _ _ _ _ _ _ _ _ _ _ _ _ _ _ _ _ _ _ _ _ _
      | exact pair_Holds.mono _ _ _ _ _ _ _ _ _ _ _ _ _ _ _ _ _
      | exact pair_Needs.mono _ _
      | exact LeO.none _
      | refine LeO.ite ?_ ?_
      | refine LeO.bind ?_ (fun _ => ?_)
set_option maxHeartbeats 8000000 in
set_option maxRecDepth 100000 in
theorem pair_Never.calls (k : Nat) (a0_0 : Int) (a0_1 : Int) (a0_2 : Int) (a1 : Int) (a2 : Int) (a3_0 : Int) (a3_1 : Int) (a3_2 : Int) (a3_3 : Int) (a3_4 : Int) (a4_0 : Int) (a4_1 : Int) (a4_2 : Int) (a4_3 : Int) (a4_4 : Int) (a5 : Int) (r : Bool) (w : World) (h : pair_Never.f k a0_0 a0_1 a0_2 a1 a2 a3_0 a3_1 a3_2 a3_3 a3_4 a4_0 a4_1 a4_2 a4_3 a4_4 a5 = some r) :
  Calls Try.prog 15 #[.agg #[.int .i64 a0_0, .int .i64 a0_1, .int .i64 a0_2], .int .i64 a1, .int .i64 a2, .agg #[.int .u32 a3_0, .int .u8 a3_1, .int .i64 a3_2, .int .i64 a3_3, .int .i64 a3_4], .agg #[.int .u32 a4_0, .int .u8 a4_1, .int .i64 a4_2, .int .i64 a4_3, .int .i64 a4_4], .int .i64 a5] w fun e w' => e = .returned (.bool r) ∧ Below w.heap.size w w' := by
 have hu23 := Try.underlying23
 have hu28 := Try.underlying28
 have HB := Aside0.mk (Below.refl w.heap.size w)
 have H : ((pair_Needs.f k a1).bind fun bt182 => (if a3_0 = 0 then (pair_Never.j0 k a1 a2 a5 bt182.1 bt182.2 false a0_0 a0_1 a0_2 a3_0 a3_1 a3_2 a3_3 a3_4 a4_0 a4_1 a4_2 a4_3 a4_4) else (pair_Never.j0 k a1 a2 a5 bt182.1 bt182.2 (a4_0 != 0) a0_0 a0_1 a0_2 a3_0 a3_1 a3_2 a3_3 a3_4 a4_0 a4_1 a4_2 a4_3 a4_4))) = some r := h
 clear h
 replace H := Option.bind_eq_some_iff.mp H
 obtain ⟨⟨t182, t183⟩, A70, H⟩ := H
 replace H : (if a3_0 = 0 then (pair_Never.j0 k a1 a2 a5 t182 t183 false a0_0 a0_1 a0_2 a3_0 a3_1 a3_2 a3_3 a3_4 a4_0 a4_1 a4_2 a4_3 a4_4) else (pair_Never.j0 k a1 a2 a5 t182 t183 (a4_0 != 0) a0_0 a0_1 a0_2 a3_0 a3_1 a3_2 a3_3 a3_4 a4_0 a4_1 a4_2 a4_3 a4_4)) = some r := H
 have A7 := Aside0.mk A70
 clear A70
 have HC8 := Aside0.mk H
 clear H
 go_enter Try.func15, Try.ntmps15
 go_upto_region 2 with (first | ((with_reducible refine gate_dst (N := 6) rfl ?_); refine box_event ?hg (N := 6) ?hd (cs := #[.int .i64 a0_0, .int .i64 a0_1, .int .i64 a0_2]) (t := 23) ?hr ?_; (case hd => rfl); (case hg => rfl); (case hr => first | (go_simp; done) | (go_simp; rfl)); intro gb179 hg w9 hbox hb; have n0_ := Aside0.mk (below_step (by repeat (first | (with_reducible first | exact HB.out | apply below_alloc | apply pw_below_drewN | apply below_drew1) | exact HB.out)) hb); have n1_ := Aside0.mk (hbox); have n2_ := Aside0.mk ((by rw [hg]; exact (below_size (by repeat (first | (with_reducible first | exact HB.out | apply below_alloc | apply pw_below_drewN | apply below_drew1) | exact HB.out))) : w.heap.size ≤ gb179)); have n3_ := Aside0.mk ((by rw [hg]; exact (below_size (by repeat (first | (with_reducible first | exact HB.out | apply below_alloc | apply pw_below_drewN | apply below_drew1) | exact HB.out))) : w.heap.size ≤ gb179)); clear HB; have HB := n0_; have BK179 := n1_; have GW179 := n2_; have GE179 := n3_; clear n0_ n1_ n2_ n3_; clear hb hbox hg) | ((with_reducible refine gate_dst (N := 9) rfl ?_); refine box_event ?hg (N := 9) ?hd (cs := #[.int .u32 a3_0, .int .u8 a3_1, .int .i64 a3_2, .int .i64 a3_3, .int .i64 a3_4]) (t := 28) ?hr ?_; (case hd => rfl); (case hg => rfl); (case hr => first | (go_simp; done) | (go_simp; rfl)); intro gb180 hg w10 hbox hb; have n0_ := Aside0.mk (blk_below (g := gb179) (o := .cells #[.int .i64 a0_0, .int .i64 a0_1, .int .i64 a0_2] 23 (0, 0)) (by (with_reducible repeat (first | refine blk_drewN ?_ _ | refine blk_drew ?_ | refine blk_alloc ?_ _)); exact BK179.out) hb); have n1_ := Aside0.mk (below_step (by repeat (first | (with_reducible first | exact HB.out | apply below_alloc | apply pw_below_drewN | apply below_drew1 | refine below_set ?_ GE179.out) | exact HB.out)) hb); have n2_ := Aside0.mk (hbox); have n3_ := Aside0.mk ((by rw [hg]; exact (below_size (by repeat (first | (with_reducible first | exact HB.out | apply below_alloc | apply pw_below_drewN | apply below_drew1 | refine below_set ?_ GE179.out) | exact HB.out))) : w.heap.size ≤ gb180)); have n4_ := Aside0.mk ((by rw [hg]; exact (below_size (by repeat (first | (with_reducible first | exact HB.out | apply below_alloc | apply pw_below_drewN | apply below_drew1 | refine below_set ?_ GE179.out) | exact HB.out))) : w.heap.size ≤ gb180)); have n5_ := Aside0.mk ((by rw [hg]; exact Nat.ne_of_lt (blk_lt (g := gb179) (o := .cells #[.int .i64 a0_0, .int .i64 a0_1, .int .i64 a0_2] 23 (0, 0)) (by (with_reducible repeat (first | refine blk_drewN ?_ _ | refine blk_drew ?_ | refine blk_alloc ?_ _)); exact BK179.out)) : gb179 ≠ gb180)); have n6_ := Aside0.mk ((by rw [hg]; exact Nat.ne_of_gt (blk_lt (g := gb179) (o := .cells #[.int .i64 a0_0, .int .i64 a0_1, .int .i64 a0_2] 23 (0, 0)) (by (with_reducible repeat (first | refine blk_drewN ?_ _ | refine blk_drew ?_ | refine blk_alloc ?_ _)); exact BK179.out)) : gb180 ≠ gb179)); clear BK179; clear HB; have BK179 := n0_; have HB := n1_; have BK180 := n2_; have GW180 := n3_; have GE180 := n4_; have NB179_180 := n5_; have NB180_179 := n6_; clear n0_ n1_ n2_ n3_ n4_ n5_ n6_; clear hb hbox hg) | ((with_reducible refine gate_dst (N := 10) rfl ?_); refine box_event ?hg (N := 10) ?hd (cs := #[.int .u32 a4_0, .int .u8 a4_1, .int .i64 a4_2, .int .i64 a4_3, .int .i64 a4_4]) (t := 28) ?hr ?_; (case hd => rfl); (case hg => rfl); (case hr => first | (go_simp; done) | (go_simp; rfl)); intro gb181 hg w11 hbox hb; have n0_ := Aside0.mk (blk_below (g := gb179) (o := .cells #[.int .i64 a0_0, .int .i64 a0_1, .int .i64 a0_2] 23 (0, 0)) (by (with_reducible repeat (first | refine blk_drewN ?_ _ | refine blk_drew ?_ | refine blk_alloc ?_ _)); exact BK179.out) hb); have n1_ := Aside0.mk (blk_below (g := gb180) (o := .cells #[.int .u32 a3_0, .int .u8 a3_1, .int .i64 a3_2, .int .i64 a3_3, .int .i64 a3_4] 28 (0, 0)) (by (with_reducible repeat (first | refine blk_drewN ?_ _ | refine blk_drew ?_ | refine blk_alloc ?_ _)); exact BK180.out) hb); have n2_ := Aside0.mk (below_step (by repeat (first | (with_reducible first | exact HB.out | apply below_alloc | apply pw_below_drewN | apply below_drew1 | refine below_set ?_ GE179.out | refine below_set ?_ GE180.out) | exact HB.out)) hb); have n3_ := Aside0.mk (hbox); have n4_ := Aside0.mk ((by rw [hg]; exact (below_size (by repeat (first | (with_reducible first | exact HB.out | apply below_alloc | apply pw_below_drewN | apply below_drew1 | refine below_set ?_ GE179.out | refine below_set ?_ GE180.out) | exact HB.out))) : w.heap.size ≤ gb181)); have n5_ := Aside0.mk ((by rw [hg]; exact (below_size (by repeat (first | (with_reducible first | exact HB.out | apply below_alloc | apply pw_below_drewN | apply below_drew1 | refine below_set ?_ GE179.out | refine below_set ?_ GE180.out) | exact HB.out))) : w.heap.size ≤ gb181)); have n6_ := Aside0.mk ((by rw [hg]; exact Nat.ne_of_lt (blk_lt (g := gb179) (o := .cells #[.int .i64 a0_0, .int .i64 a0_1, .int .i64 a0_2] 23 (0, 0)) (by (with_reducible repeat (first | refine blk_drewN ?_ _ | refine blk_drew ?_ | refine blk_alloc ?_ _)); exact BK179.out)) : gb179 ≠ gb181)); have n7_ := Aside0.mk ((by rw [hg]; exact Nat.ne_of_gt (blk_lt (g := gb179) (o := .cells #[.int .i64 a0_0, .int .i64 a0_1, .int .i64 a0_2] 23 (0, 0)) (by (with_reducible repeat (first | refine blk_drewN ?_ _ | refine blk_drew ?_ | refine blk_alloc ?_ _)); exact BK179.out)) : gb181 ≠ gb179)); have n8_ := Aside0.mk ((by rw [hg]; exact Nat.ne_of_lt (blk_lt (g := gb180) (o := .cells #[.int .u32 a3_0, .int .u8 a3_1, .int .i64 a3_2, .int .i64 a3_3, .int .i64 a3_4] 28 (0, 0)) (by (with_reducible repeat (first | refine blk_drewN ?_ _ | refine blk_drew ?_ | refine blk_alloc ?_ _)); exact BK180.out)) : gb180 ≠ gb181)); have n9_ := Aside0.mk ((by rw [hg]; exact Nat.ne_of_gt (blk_lt (g := gb180) (o := .cells #[.int .u32 a3_0, .int .u8 a3_1, .int .i64 a3_2, .int .i64 a3_3, .int .i64 a3_4] 28 (0, 0)) (by (with_reducible repeat (first | refine blk_drewN ?_ _ | refine blk_drew ?_ | refine blk_alloc ?_ _)); exact BK180.out)) : gb181 ≠ gb180)); clear BK179; clear BK180; clear HB; have BK179 := n0_; have BK180 := n1_; have HB := n2_; have BK181 := n3_; have GW181 := n4_; have GE181 := n5_; have NB179_181 := n6_; have NB181_179 := n7_; have NB180_181 := n8_; have NB181_180 := n9_; clear n0_ n1_ n2_ n3_ n4_ n5_ n6_ n7_ n8_ n9_; clear hb hbox hg) | ((with_reducible refine gate_callee (f := 18) rfl ?_); refine goesL_ (some 21) rfl rfl Try.func18 (by kernel_rfl) rfl #[.int .i64 a1] rfl (by (try simp only [List.map_toArray, List.map_cons, List.map_nil]); first | done | rfl | (simp only [List.length_drop, List.length_take]; rfl)) ?_; (with_reducible refine (pair_Needs.calls k a1 t182 t183 _ A7.out).mono ?_); rintro e w' ⟨rfl, ⟨nd, rfl⟩⟩; refine ⟨_, rfl, ?_⟩))
 (try simp only [Act.put, List.setIfInBounds_toArray, List.set_cons_zero, List.set_cons_succ])
 go_cut [15] (fun v15 wc => ∃ (kq : Nat) (x15_7 : Bool), v15 = .bool x15_7 ∧ Aside0 (pair_Never.j0 kq a1 a2 a5 t182 t183 x15_7 a0_0 a0_1 a0_2 a3_0 a3_1 a3_2 a3_3 a3_4 a4_0 a4_1 a4_2 a4_3 a4_4 = some r) ∧ Aside0 (kq ≤ k) ∧ Aside0 (wc.heap[gb179]? = some (.cells #[.int .i64 a0_0, .int .i64 a0_1, .int .i64 a0_2] 23 (0, 0))) ∧ Aside0 (wc.heap[gb180]? = some (.cells #[.int .u32 a3_0, .int .u8 a3_1, .int .i64 a3_2, .int .i64 a3_3, .int .i64 a3_4] 28 (0, 0))) ∧ Aside0 (wc.heap[gb181]? = some (.cells #[.int .u32 a4_0, .int .u8 a4_1, .int .i64 a4_2, .int .i64 a4_3, .int .i64 a4_4] 28 (0, 0))) ∧ Aside0 (Below w.heap.size w wc))
 case first =>
  have H := HC8.out
  clear HC8
  by_cases c12 : a3_0 = 0
  ·
   rw [if_pos c12] at H
   have c12b0 : (a3_0 == 0) = true := beq_iff_eq.mpr c12
   have c12b1 : (a3_0 != 0) = false := bne_eq_false_iff_eq.mpr c12
   clear c12
   (first | rw [c12b0] | (simp only [i64_w, i32_w]; rw [c12b0]) | skip)
   have H' := Aside0.mk H
   clear H
   have hnb13 := NB180_179.out
   have hnc13 := NB179_180.out
   have hnb14 := NB180_181.out
   have hnc14 := NB181_180.out
   have hcz15_0 : w11.cell? ⟨gb180, 0, none⟩ = some (.int .u32 a3_0) := (blk_cell BK180.out 0).trans rfl
   have hcz15_1 : w11.cell? ⟨gb180, 1, none⟩ = some (.int .u8 a3_1) := (blk_cell BK180.out 1).trans rfl
   have hcz15_2 : w11.cell? ⟨gb180, 2, none⟩ = some (.int .i64 a3_2) := (blk_cell BK180.out 2).trans rfl
   have hcz15_3 : w11.cell? ⟨gb180, 3, none⟩ = some (.int .i64 a3_3) := (blk_cell BK180.out 3).trans rfl
   have hcz15_4 : w11.cell? ⟨gb180, 4, none⟩ = some (.int .i64 a3_4) := (blk_cell BK180.out 4).trans rfl
   have hfz15_0 := blk_frozen BK180.out 0
   have hfz15_1 := blk_frozen BK180.out 1
   have hfz15_2 := blk_frozen BK180.out 2
   have hfz15_3 := blk_frozen BK180.out 3
   have hfz15_4 := blk_frozen BK180.out 4
   go_wp2
   go_meet
   case rel => exact ⟨_, (false), (by first | rfl | (simp; done) | (simp [*]; done)), H', ⟨by first | omega | exact Nat.le_refl _⟩, ⟨by (with_reducible repeat (first | refine blk_drewN ?_ _ | refine blk_drew ?_ | refine blk_alloc ?_ _)); exact BK179.out⟩, ⟨by (with_reducible repeat (first | refine blk_drewN ?_ _ | refine blk_drew ?_ | refine blk_alloc ?_ _)); exact BK180.out⟩, ⟨by (with_reducible repeat (first | refine blk_drewN ?_ _ | refine blk_drew ?_ | refine blk_alloc ?_ _)); exact BK181.out⟩, ⟨by repeat (first | (with_reducible first | exact HB.out | apply below_alloc | apply pw_below_drewN | apply below_drew1 | refine below_set ?_ GE179.out | refine below_set ?_ GE180.out | refine below_set ?_ GE181.out) | exact HB.out)⟩⟩
  ·
   rw [if_neg c12] at H
   have c12b0 : (a3_0 == 0) = false := beq_eq_false_iff_ne.mpr c12
   have c12b1 : (a3_0 != 0) = true := bne_iff_ne.mpr c12
   (first | rw [c12b0] | (simp only [i64_w, i32_w]; rw [c12b0]) | skip)
   have H' := Aside0.mk H
   clear H
   have hnb16 := NB180_179.out
   have hnc16 := NB179_180.out
   have hnb17 := NB180_181.out
   have hnc17 := NB181_180.out
   have hcz18_0 : w11.cell? ⟨gb180, 0, none⟩ = some (.int .u32 a3_0) := (blk_cell BK180.out 0).trans rfl
   have hcz18_1 : w11.cell? ⟨gb180, 1, none⟩ = some (.int .u8 a3_1) := (blk_cell BK180.out 1).trans rfl
   have hcz18_2 : w11.cell? ⟨gb180, 2, none⟩ = some (.int .i64 a3_2) := (blk_cell BK180.out 2).trans rfl
   have hcz18_3 : w11.cell? ⟨gb180, 3, none⟩ = some (.int .i64 a3_3) := (blk_cell BK180.out 3).trans rfl
   have hcz18_4 : w11.cell? ⟨gb180, 4, none⟩ = some (.int .i64 a3_4) := (blk_cell BK180.out 4).trans rfl
   have hfz18_0 := blk_frozen BK180.out 0
   have hfz18_1 := blk_frozen BK180.out 1
   have hfz18_2 := blk_frozen BK180.out 2
   have hfz18_3 := blk_frozen BK180.out 3
   have hfz18_4 := blk_frozen BK180.out 4
   have hnb19 := NB181_179.out
   have hnc19 := NB179_181.out
   have hcz20_0 : w11.cell? ⟨gb181, 0, none⟩ = some (.int .u32 a4_0) := (blk_cell BK181.out 0).trans rfl
   have hcz20_1 : w11.cell? ⟨gb181, 1, none⟩ = some (.int .u8 a4_1) := (blk_cell BK181.out 1).trans rfl
   have hcz20_2 : w11.cell? ⟨gb181, 2, none⟩ = some (.int .i64 a4_2) := (blk_cell BK181.out 2).trans rfl
   have hcz20_3 : w11.cell? ⟨gb181, 3, none⟩ = some (.int .i64 a4_3) := (blk_cell BK181.out 3).trans rfl
   have hcz20_4 : w11.cell? ⟨gb181, 4, none⟩ = some (.int .i64 a4_4) := (blk_cell BK181.out 4).trans rfl
   have hfz20_0 := blk_frozen BK181.out 0
   have hfz20_1 := blk_frozen BK181.out 1
   have hfz20_2 := blk_frozen BK181.out 2
   have hfz20_3 := blk_frozen BK181.out 3
   have hfz20_4 := blk_frozen BK181.out 4
   go_wp2
   go_meet
   case rel => exact ⟨_, ((a4_0 != 0)), (by first | rfl | (simp; done) | (simp [*]; done)), H', ⟨by first | omega | exact Nat.le_refl _⟩, ⟨by (with_reducible repeat (first | refine blk_drewN ?_ _ | refine blk_drew ?_ | refine blk_alloc ?_ _)); exact BK179.out⟩, ⟨by (with_reducible repeat (first | refine blk_drewN ?_ _ | refine blk_drew ?_ | refine blk_alloc ?_ _)); exact BK180.out⟩, ⟨by (with_reducible repeat (first | refine blk_drewN ?_ _ | refine blk_drew ?_ | refine blk_alloc ?_ _)); exact BK181.out⟩, ⟨by repeat (first | (with_reducible first | exact HB.out | apply below_alloc | apply pw_below_drewN | apply below_drew1 | refine below_set ?_ GE179.out | refine below_set ?_ GE180.out | refine below_set ?_ GE181.out) | exact HB.out)⟩⟩
 case rest =>
  clear HC8
  try clear c1
  try clear p2
  try clear c12
  try clear c12b0
  try clear c12b1
  try clear c13
  try clear c14
  try clear c15
  try clear c16
  try clear c17
  try clear c18
  try clear c19
  try clear hcz15_0
  try clear hcz15_1
  try clear hcz15_2
  try clear hcz15_3
  try clear hcz15_4
  try clear hcz18_0
  try clear hcz18_1
  try clear hcz18_2
  try clear hcz18_3
  try clear hcz18_4
  try clear hcz20_0
  try clear hcz20_1
  try clear hcz20_2
  try clear hcz20_3
  try clear hcz20_4
  try clear hfz15_0
  try clear hfz15_1
  try clear hfz15_2
  try clear hfz15_3
  try clear hfz15_4
  try clear hfz18_0
  try clear hfz18_1
  try clear hfz18_2
  try clear hfz18_3
  try clear hfz18_4
  try clear hfz20_0
  try clear hfz20_1
  try clear hfz20_2
  try clear hfz20_3
  try clear hfz20_4
  obtain ⟨kq, x15_7, rfl, HA, HJ7, BK179, BK180, BK181, HB⟩ := hcut
  cases kq with
  | zero => exact absurd HA.out (by simp [pair_Never.j0])
  | succ kj7 =>
   have H := HA.out
   clear HA
   simp only [pair_Never.j0] at H
   have HC21 := Aside0.mk H
   clear H
   go_upto_region 3 with (fail)
   go_cut [16] (fun v16 wc => ∃ (kq : Nat) (x16_20 : Bool), v16 = .bool x16_20 ∧ Aside0 (pair_Never.j1 kq a1 a2 a5 t182 t183 x15_7 x16_20 a0_0 a0_1 a0_2 a3_0 a3_1 a3_2 a3_3 a3_4 a4_0 a4_1 a4_2 a4_3 a4_4 = some r) ∧ Aside0 (kq ≤ kj7) ∧ Aside0 (wc.heap[gb179]? = some (.cells #[.int .i64 a0_0, .int .i64 a0_1, .int .i64 a0_2] 23 (0, 0))) ∧ Aside0 (wc.heap[gb180]? = some (.cells #[.int .u32 a3_0, .int .u8 a3_1, .int .i64 a3_2, .int .i64 a3_3, .int .i64 a3_4] 28 (0, 0))) ∧ Aside0 (wc.heap[gb181]? = some (.cells #[.int .u32 a4_0, .int .u8 a4_1, .int .i64 a4_2, .int .i64 a4_3, .int .i64 a4_4] 28 (0, 0))) ∧ Aside0 (Below w.heap.size w wc))
   case first =>
    have H := HC21.out
    clear HC21
    by_cases c22 : a3_4 = (-2)
    ·
     rw [if_pos c22] at H
     have c22b0 : (a3_4 == (-2)) = true := beq_iff_eq.mpr c22
     have c22b1 : (a3_4 != (-2)) = false := bne_eq_false_iff_eq.mpr c22
     clear c22
     (first | rw [c22b0] | (simp only [i64_w, i32_w]; rw [c22b0]) | skip)
     have H' := Aside0.mk H
     clear H
     have hnb23 := NB180_179.out
     have hnc23 := NB179_180.out
     have hnb24 := NB180_181.out
     have hnc24 := NB181_180.out
     have hcz25_0 : wc.cell? ⟨gb180, 0, none⟩ = some (.int .u32 a3_0) := (blk_cell BK180.out 0).trans rfl
     have hcz25_1 : wc.cell? ⟨gb180, 1, none⟩ = some (.int .u8 a3_1) := (blk_cell BK180.out 1).trans rfl
     have hcz25_2 : wc.cell? ⟨gb180, 2, none⟩ = some (.int .i64 a3_2) := (blk_cell BK180.out 2).trans rfl
     have hcz25_3 : wc.cell? ⟨gb180, 3, none⟩ = some (.int .i64 a3_3) := (blk_cell BK180.out 3).trans rfl
     have hcz25_4 : wc.cell? ⟨gb180, 4, none⟩ = some (.int .i64 a3_4) := (blk_cell BK180.out 4).trans rfl
     have hfz25_0 := blk_frozen BK180.out 0
     have hfz25_1 := blk_frozen BK180.out 1
     have hfz25_2 := blk_frozen BK180.out 2
     have hfz25_3 := blk_frozen BK180.out 3
     have hfz25_4 := blk_frozen BK180.out 4
     go_wp2
     go_meet
     case rel => exact ⟨_, (false), (by first | rfl | (simp; done) | (simp [*]; done)), H', ⟨by have := HJ7.out; first | omega | exact Nat.le_refl _⟩, ⟨by (with_reducible repeat (first | refine blk_drewN ?_ _ | refine blk_drew ?_ | refine blk_alloc ?_ _)); exact BK179.out⟩, ⟨by (with_reducible repeat (first | refine blk_drewN ?_ _ | refine blk_drew ?_ | refine blk_alloc ?_ _)); exact BK180.out⟩, ⟨by (with_reducible repeat (first | refine blk_drewN ?_ _ | refine blk_drew ?_ | refine blk_alloc ?_ _)); exact BK181.out⟩, ⟨by repeat (first | (with_reducible first | exact HB.out | apply below_alloc | apply pw_below_drewN | apply below_drew1 | refine below_set ?_ GE179.out | refine below_set ?_ GE180.out | refine below_set ?_ GE181.out) | exact HB.out)⟩⟩
    ·
     rw [if_neg c22] at H
     have c22b0 : (a3_4 == (-2)) = false := beq_eq_false_iff_ne.mpr c22
     have c22b1 : (a3_4 != (-2)) = true := bne_iff_ne.mpr c22
     (first | rw [c22b0] | (simp only [i64_w, i32_w]; rw [c22b0]) | skip)
     have H' := Aside0.mk H
     clear H
     have hnb26 := NB180_179.out
     have hnc26 := NB179_180.out
     have hnb27 := NB180_181.out
     have hnc27 := NB181_180.out
     have hcz28_0 : wc.cell? ⟨gb180, 0, none⟩ = some (.int .u32 a3_0) := (blk_cell BK180.out 0).trans rfl
     have hcz28_1 : wc.cell? ⟨gb180, 1, none⟩ = some (.int .u8 a3_1) := (blk_cell BK180.out 1).trans rfl
     have hcz28_2 : wc.cell? ⟨gb180, 2, none⟩ = some (.int .i64 a3_2) := (blk_cell BK180.out 2).trans rfl
     have hcz28_3 : wc.cell? ⟨gb180, 3, none⟩ = some (.int .i64 a3_3) := (blk_cell BK180.out 3).trans rfl
     have hcz28_4 : wc.cell? ⟨gb180, 4, none⟩ = some (.int .i64 a3_4) := (blk_cell BK180.out 4).trans rfl
     have hfz28_0 := blk_frozen BK180.out 0
     have hfz28_1 := blk_frozen BK180.out 1
     have hfz28_2 := blk_frozen BK180.out 2
     have hfz28_3 := blk_frozen BK180.out 3
     have hfz28_4 := blk_frozen BK180.out 4
     have hnb29 := NB181_179.out
     have hnc29 := NB179_181.out
     have hcz30_0 : wc.cell? ⟨gb181, 0, none⟩ = some (.int .u32 a4_0) := (blk_cell BK181.out 0).trans rfl
     have hcz30_1 : wc.cell? ⟨gb181, 1, none⟩ = some (.int .u8 a4_1) := (blk_cell BK181.out 1).trans rfl
     have hcz30_2 : wc.cell? ⟨gb181, 2, none⟩ = some (.int .i64 a4_2) := (blk_cell BK181.out 2).trans rfl
     have hcz30_3 : wc.cell? ⟨gb181, 3, none⟩ = some (.int .i64 a4_3) := (blk_cell BK181.out 3).trans rfl
     have hcz30_4 : wc.cell? ⟨gb181, 4, none⟩ = some (.int .i64 a4_4) := (blk_cell BK181.out 4).trans rfl
     have hfz30_0 := blk_frozen BK181.out 0
     have hfz30_1 := blk_frozen BK181.out 1
     have hfz30_2 := blk_frozen BK181.out 2
     have hfz30_3 := blk_frozen BK181.out 3
     have hfz30_4 := blk_frozen BK181.out 4
     go_wp2
     go_meet
     case rel => exact ⟨_, ((a4_4 != (-2))), (by first | rfl | (simp; done) | (simp [*]; done)), H', ⟨by have := HJ7.out; first | omega | exact Nat.le_refl _⟩, ⟨by (with_reducible repeat (first | refine blk_drewN ?_ _ | refine blk_drew ?_ | refine blk_alloc ?_ _)); exact BK179.out⟩, ⟨by (with_reducible repeat (first | refine blk_drewN ?_ _ | refine blk_drew ?_ | refine blk_alloc ?_ _)); exact BK180.out⟩, ⟨by (with_reducible repeat (first | refine blk_drewN ?_ _ | refine blk_drew ?_ | refine blk_alloc ?_ _)); exact BK181.out⟩, ⟨by repeat (first | (with_reducible first | exact HB.out | apply below_alloc | apply pw_below_drewN | apply below_drew1 | refine below_set ?_ GE179.out | refine below_set ?_ GE180.out | refine below_set ?_ GE181.out) | exact HB.out)⟩⟩
   case rest =>
    clear HC21
    try clear c2
    try clear c22
    try clear c22b0
    try clear c22b1
    try clear c23
    try clear c24
    try clear c26
    try clear c27
    try clear c29
    try clear hcz25_0
    try clear hcz25_1
    try clear hcz25_2
    try clear hcz25_3
    try clear hcz25_4
    try clear hcz28_0
    try clear hcz28_1
    try clear hcz28_2
    try clear hcz28_3
    try clear hcz28_4
    try clear hcz30_0
    try clear hcz30_1
    try clear hcz30_2
    try clear hcz30_3
    try clear hcz30_4
    try clear hfz25_0
    try clear hfz25_1
    try clear hfz25_2
    try clear hfz25_3
    try clear hfz25_4
    try clear hfz28_0
    try clear hfz28_1
    try clear hfz28_2
    try clear hfz28_3
    try clear hfz28_4
    try clear hfz30_0
    try clear hfz30_1
    try clear hfz30_2
    try clear hfz30_3
    try clear hfz30_4
    obtain ⟨kq, x16_20, rfl, HA, HJ20, BK179, BK180, BK181, HB⟩ := hcut
    cases kq with
    | zero => exact absurd HA.out (by simp [pair_Never.j1])
    | succ kj20 =>
     have H := HA.out
     clear HA
     simp only [pair_Never.j1] at H
     replace H := Option.bind_eq_some_iff.mp H
     obtain ⟨t184, A310, H⟩ := H
     replace H : (if t182 = true then (pair_Never.j2 kj20 a1 a2 t182 t183 x15_7 x16_20 t184 t183 a0_0 a0_1 a0_2 a3_0 a3_1 a3_2 a3_3 a3_4 a4_0 a4_1 a4_2 a4_3 a4_4) else (pair_Never.j2 kj20 a1 a2 t182 t183 x15_7 x16_20 t184 false a0_0 a0_1 a0_2 a3_0 a3_1 a3_2 a3_3 a3_4 a4_0 a4_1 a4_2 a4_3 a4_4)) = some r := H
     have A31 := Aside0.mk A310
     clear A310
     have HC32 := Aside0.mk H
     clear H
     have hnb33 := NB179_180.out
     have hnc33 := NB180_179.out
     have hnb34 := NB179_181.out
     have hnc34 := NB181_179.out
     have hcz35_0 : wc.cell? ⟨gb179, 0, none⟩ = some (.int .i64 a0_0) := (blk_cell BK179.out 0).trans rfl
     have hcz35_1 : wc.cell? ⟨gb179, 1, none⟩ = some (.int .i64 a0_1) := (blk_cell BK179.out 1).trans rfl
     have hcz35_2 : wc.cell? ⟨gb179, 2, none⟩ = some (.int .i64 a0_2) := (blk_cell BK179.out 2).trans rfl
     have hfz35_0 := blk_frozen BK179.out 0
     have hfz35_1 := blk_frozen BK179.out 1
     have hfz35_2 := blk_frozen BK179.out 2
     have hnb36 := NB180_181.out
     have hnc36 := NB181_180.out
     have hcz37_0 : wc.cell? ⟨gb180, 0, none⟩ = some (.int .u32 a3_0) := (blk_cell BK180.out 0).trans rfl
     have hcz37_1 : wc.cell? ⟨gb180, 1, none⟩ = some (.int .u8 a3_1) := (blk_cell BK180.out 1).trans rfl
     have hcz37_2 : wc.cell? ⟨gb180, 2, none⟩ = some (.int .i64 a3_2) := (blk_cell BK180.out 2).trans rfl
     have hcz37_3 : wc.cell? ⟨gb180, 3, none⟩ = some (.int .i64 a3_3) := (blk_cell BK180.out 3).trans rfl
     have hcz37_4 : wc.cell? ⟨gb180, 4, none⟩ = some (.int .i64 a3_4) := (blk_cell BK180.out 4).trans rfl
     have hfz37_0 := blk_frozen BK180.out 0
     have hfz37_1 := blk_frozen BK180.out 1
     have hfz37_2 := blk_frozen BK180.out 2
     have hfz37_3 := blk_frozen BK180.out 3
     have hfz37_4 := blk_frozen BK180.out 4
     have hcz38_0 : wc.cell? ⟨gb181, 0, none⟩ = some (.int .u32 a4_0) := (blk_cell BK181.out 0).trans rfl
     have hcz38_1 : wc.cell? ⟨gb181, 1, none⟩ = some (.int .u8 a4_1) := (blk_cell BK181.out 1).trans rfl
     have hcz38_2 : wc.cell? ⟨gb181, 2, none⟩ = some (.int .i64 a4_2) := (blk_cell BK181.out 2).trans rfl
     have hcz38_3 : wc.cell? ⟨gb181, 3, none⟩ = some (.int .i64 a4_3) := (blk_cell BK181.out 3).trans rfl
     have hcz38_4 : wc.cell? ⟨gb181, 4, none⟩ = some (.int .i64 a4_4) := (blk_cell BK181.out 4).trans rfl
     have hfz38_0 := blk_frozen BK181.out 0
     have hfz38_1 := blk_frozen BK181.out 1
     have hfz38_2 := blk_frozen BK181.out 2
     have hfz38_3 := blk_frozen BK181.out 3
     have hfz38_4 := blk_frozen BK181.out 4
     go_upto_region 5 with (first | ((with_reducible refine gate_callee (f := 10) rfl ?_); refine goesL_ (some 48) rfl rfl Try.func10 (by kernel_rfl) rfl #[.agg #[.int .i64 a0_0, .int .i64 a0_1, .int .i64 a0_2], .int .i64 a1, .int .i64 a2, .agg #[.int .u32 a3_0, .int .u8 a3_1, .int .i64 a3_2, .int .i64 a3_3, .int .i64 a3_4], .agg #[.int .u32 a4_0, .int .u8 a4_1, .int .i64 a4_2, .int .i64 a4_3, .int .i64 a4_4], .int .i64 a5] rfl (by (try simp only [List.map_toArray, List.map_cons, List.map_nil]); first | done | rfl | (simp only [List.length_drop, List.length_take]; rfl)) ?_; (with_reducible refine (pair_Holds.calls kj20 a0_0 a0_1 a0_2 a1 a2 a3_0 a3_1 a3_2 a3_3 a3_4 a4_0 a4_1 a4_2 a4_3 a4_4 a5 t184 _ A31.out).mono ?_); rintro e w39 ⟨rfl, hb⟩; refine ⟨_, rfl, ?_⟩; have n0_ := Aside0.mk (blk_below (g := gb179) (o := .cells #[.int .i64 a0_0, .int .i64 a0_1, .int .i64 a0_2] 23 (0, 0)) (by (with_reducible repeat (first | refine blk_drewN ?_ _ | refine blk_drew ?_ | refine blk_alloc ?_ _)); exact BK179.out) hb); have n1_ := Aside0.mk (blk_below (g := gb180) (o := .cells #[.int .u32 a3_0, .int .u8 a3_1, .int .i64 a3_2, .int .i64 a3_3, .int .i64 a3_4] 28 (0, 0)) (by (with_reducible repeat (first | refine blk_drewN ?_ _ | refine blk_drew ?_ | refine blk_alloc ?_ _)); exact BK180.out) hb); have n2_ := Aside0.mk (blk_below (g := gb181) (o := .cells #[.int .u32 a4_0, .int .u8 a4_1, .int .i64 a4_2, .int .i64 a4_3, .int .i64 a4_4] 28 (0, 0)) (by (with_reducible repeat (first | refine blk_drewN ?_ _ | refine blk_drew ?_ | refine blk_alloc ?_ _)); exact BK181.out) hb); have n3_ := Aside0.mk (below_step (by repeat (first | (with_reducible first | exact HB.out | apply below_alloc | apply pw_below_drewN | apply below_drew1 | refine below_set ?_ GE179.out | refine below_set ?_ GE180.out | refine below_set ?_ GE181.out) | exact HB.out)) hb); clear BK179; clear BK180; clear BK181; clear HB; have BK179 := n0_; have BK180 := n1_; have BK181 := n2_; have HB := n3_; clear n0_ n1_ n2_ n3_; (try clear hb); (try clear hb2); (try clear hk); (try clear hi)))
     (try simp only [Act.put, List.setIfInBounds_toArray, List.set_cons_zero, List.set_cons_succ])
     go_cut [49] (fun v49 wc => ∃ (kq : Nat) (x49_31 : Bool), v49 = .bool x49_31 ∧ Aside0 (pair_Never.j2 kq a1 a2 t182 t183 x15_7 x16_20 t184 x49_31 a0_0 a0_1 a0_2 a3_0 a3_1 a3_2 a3_3 a3_4 a4_0 a4_1 a4_2 a4_3 a4_4 = some r) ∧ Aside0 (kq ≤ kj20) ∧ Aside0 (wc.heap[gb179]? = some (.cells #[.int .i64 a0_0, .int .i64 a0_1, .int .i64 a0_2] 23 (0, 0))) ∧ Aside0 (wc.heap[gb180]? = some (.cells #[.int .u32 a3_0, .int .u8 a3_1, .int .i64 a3_2, .int .i64 a3_3, .int .i64 a3_4] 28 (0, 0))) ∧ Aside0 (wc.heap[gb181]? = some (.cells #[.int .u32 a4_0, .int .u8 a4_1, .int .i64 a4_2, .int .i64 a4_3, .int .i64 a4_4] 28 (0, 0))) ∧ Aside0 (Below w.heap.size w wc))
     case first =>
      have H := HC32.out
      clear HC32
      by_cases c40 : t182 = true
      ·
       subst c40
       have H1 : (pair_Never.j2 kj20 a1 a2 true t183 x15_7 x16_20 t184 t183 a0_0 a0_1 a0_2 a3_0 a3_1 a3_2 a3_3 a3_4 a4_0 a4_1 a4_2 a4_3 a4_4) = some r := by rw [if_pos rfl] at H; exact H
       clear H
       have H := H1
       clear H1
       have H' := Aside0.mk H
       clear H
       go_wp2
       go_meet
       case rel => exact ⟨_, (t183), (by first | rfl | (simp; done) | (simp [*]; done)), H', ⟨by have := HJ7.out; have := HJ20.out; first | omega | exact Nat.le_refl _⟩, ⟨by (with_reducible repeat (first | refine blk_drewN ?_ _ | refine blk_drew ?_ | refine blk_alloc ?_ _)); exact BK179.out⟩, ⟨by (with_reducible repeat (first | refine blk_drewN ?_ _ | refine blk_drew ?_ | refine blk_alloc ?_ _)); exact BK180.out⟩, ⟨by (with_reducible repeat (first | refine blk_drewN ?_ _ | refine blk_drew ?_ | refine blk_alloc ?_ _)); exact BK181.out⟩, ⟨by repeat (first | (with_reducible first | exact HB.out | apply below_alloc | apply pw_below_drewN | apply below_drew1 | refine below_set ?_ GE179.out | refine below_set ?_ GE180.out | refine below_set ?_ GE181.out) | exact HB.out)⟩⟩
      ·
       replace c40 := Bool.eq_false_iff.mpr c40
       subst c40
       have H1 : (pair_Never.j2 kj20 a1 a2 false t183 x15_7 x16_20 t184 false a0_0 a0_1 a0_2 a3_0 a3_1 a3_2 a3_3 a3_4 a4_0 a4_1 a4_2 a4_3 a4_4) = some r := by rw [if_neg (show ¬ (false = true) by decide)] at H; exact H
       clear H
       have H := H1
       clear H1
       have H' := Aside0.mk H
       clear H
       go_wp2
       go_meet
       case rel => exact ⟨_, (false), (by first | rfl | (simp; done) | (simp [*]; done)), H', ⟨by have := HJ7.out; have := HJ20.out; first | omega | exact Nat.le_refl _⟩, ⟨by (with_reducible repeat (first | refine blk_drewN ?_ _ | refine blk_drew ?_ | refine blk_alloc ?_ _)); exact BK179.out⟩, ⟨by (with_reducible repeat (first | refine blk_drewN ?_ _ | refine blk_drew ?_ | refine blk_alloc ?_ _)); exact BK180.out⟩, ⟨by (with_reducible repeat (first | refine blk_drewN ?_ _ | refine blk_drew ?_ | refine blk_alloc ?_ _)); exact BK181.out⟩, ⟨by repeat (first | (with_reducible first | exact HB.out | apply below_alloc | apply pw_below_drewN | apply below_drew1 | refine below_set ?_ GE179.out | refine below_set ?_ GE180.out | refine below_set ?_ GE181.out) | exact HB.out)⟩⟩
     case rest =>
      clear HC32
      try clear c3
      try clear c4
      try clear c10
      try clear c33
      try clear c34
      try clear c36
      try clear c40
      try clear hcz35_0
      try clear hcz35_1
      try clear hcz35_2
      try clear hcz37_0
      try clear hcz37_1
      try clear hcz37_2
      try clear hcz37_3
      try clear hcz37_4
      try clear hcz38_0
      try clear hcz38_1
      try clear hcz38_2
      try clear hcz38_3
      try clear hcz38_4
      try clear hfz35_0
      try clear hfz35_1
      try clear hfz35_2
      try clear hfz37_0
      try clear hfz37_1
      try clear hfz37_2
      try clear hfz37_3
      try clear hfz37_4
      try clear hfz38_0
      try clear hfz38_1
      try clear hfz38_2
      try clear hfz38_3
      try clear hfz38_4
      obtain ⟨kq, x49_31, rfl, HA, HJ31, BK179, BK180, BK181, HB⟩ := hcut
      cases kq with
      | zero => exact absurd HA.out (by simp [pair_Never.j2])
      | succ kj31 =>
       have H := HA.out
       clear HA
       simp only [pair_Never.j2] at H
       by_cases c41 : x49_31 = true
       ·
        subst c41
        have H1 : (if x15_7 = true then ((pair_Holds.f kj31 a0_0 a0_1 a0_2 a1 a2 a3_0 a3_1 a3_2 a3_3 a3_4 a4_0 a4_1 a4_2 a4_3 a4_4 0).bind fun t185 => (if t185 = true then (if t184 = true then (some false) else (some x16_20)) else (some true))) else (some false)) = some r := by rw [if_pos rfl] at H; exact H
        clear H
        have H := H1
        clear H1
        by_cases c42 : x15_7 = true
        ·
         subst c42
         have H1 : ((pair_Holds.f kj31 a0_0 a0_1 a0_2 a1 a2 a3_0 a3_1 a3_2 a3_3 a3_4 a4_0 a4_1 a4_2 a4_3 a4_4 0).bind fun t185 => (if t185 = true then (if t184 = true then (some false) else (some x16_20)) else (some true))) = some r := by rw [if_pos rfl] at H; exact H
         clear H
         have H := H1
         clear H1
         replace H := Option.bind_eq_some_iff.mp H
         obtain ⟨t185, A430, H⟩ := H
         replace H : (if t185 = true then (if t184 = true then (some false) else (some x16_20)) else (some true)) = some r := H
         have A43 := Aside0.mk A430
         clear A430
         by_cases c44 : t185 = true
         ·
          subst c44
          have H1 : (if t184 = true then (some false) else (some x16_20)) = some r := by rw [if_pos rfl] at H; exact H
          clear H
          have H := H1
          clear H1
          by_cases c45 : t184 = true
          ·
           subst c45
           have H1 : (some false) = some r := by rw [if_pos rfl] at H; exact H
           clear H
           have H := H1
           clear H1
           obtain rfl := Option.some.inj H
           have hnb46 := NB179_180.out
           have hnc46 := NB180_179.out
           have hnb47 := NB179_181.out
           have hnc47 := NB181_179.out
           have hcz48_0 : wc.cell? ⟨gb179, 0, none⟩ = some (.int .i64 a0_0) := (blk_cell BK179.out 0).trans rfl
           have hcz48_1 : wc.cell? ⟨gb179, 1, none⟩ = some (.int .i64 a0_1) := (blk_cell BK179.out 1).trans rfl
           have hcz48_2 : wc.cell? ⟨gb179, 2, none⟩ = some (.int .i64 a0_2) := (blk_cell BK179.out 2).trans rfl
           have hfz48_0 := blk_frozen BK179.out 0
           have hfz48_1 := blk_frozen BK179.out 1
           have hfz48_2 := blk_frozen BK179.out 2
           have hnb49 := NB180_181.out
           have hnc49 := NB181_180.out
           have hcz50_0 : wc.cell? ⟨gb180, 0, none⟩ = some (.int .u32 a3_0) := (blk_cell BK180.out 0).trans rfl
           have hcz50_1 : wc.cell? ⟨gb180, 1, none⟩ = some (.int .u8 a3_1) := (blk_cell BK180.out 1).trans rfl
           have hcz50_2 : wc.cell? ⟨gb180, 2, none⟩ = some (.int .i64 a3_2) := (blk_cell BK180.out 2).trans rfl
           have hcz50_3 : wc.cell? ⟨gb180, 3, none⟩ = some (.int .i64 a3_3) := (blk_cell BK180.out 3).trans rfl
           have hcz50_4 : wc.cell? ⟨gb180, 4, none⟩ = some (.int .i64 a3_4) := (blk_cell BK180.out 4).trans rfl
           have hfz50_0 := blk_frozen BK180.out 0
           have hfz50_1 := blk_frozen BK180.out 1
           have hfz50_2 := blk_frozen BK180.out 2
           have hfz50_3 := blk_frozen BK180.out 3
           have hfz50_4 := blk_frozen BK180.out 4
           have hcz51_0 : wc.cell? ⟨gb181, 0, none⟩ = some (.int .u32 a4_0) := (blk_cell BK181.out 0).trans rfl
           have hcz51_1 : wc.cell? ⟨gb181, 1, none⟩ = some (.int .u8 a4_1) := (blk_cell BK181.out 1).trans rfl
           have hcz51_2 : wc.cell? ⟨gb181, 2, none⟩ = some (.int .i64 a4_2) := (blk_cell BK181.out 2).trans rfl
           have hcz51_3 : wc.cell? ⟨gb181, 3, none⟩ = some (.int .i64 a4_3) := (blk_cell BK181.out 3).trans rfl
           have hcz51_4 : wc.cell? ⟨gb181, 4, none⟩ = some (.int .i64 a4_4) := (blk_cell BK181.out 4).trans rfl
           have hfz51_0 := blk_frozen BK181.out 0
           have hfz51_1 := blk_frozen BK181.out 1
           have hfz51_2 := blk_frozen BK181.out 2
           have hfz51_3 := blk_frozen BK181.out 3
           have hfz51_4 := blk_frozen BK181.out 4
           go_wp2_with (first | (go_at_call 10; (with_reducible refine (pair_Holds.calls kj31 a0_0 a0_1 a0_2 a1 a2 a3_0 a3_1 a3_2 a3_3 a3_4 a4_0 a4_1 a4_2 a4_3 a4_4 0 true _ A43.out).mono ?_); rintro e w52 ⟨rfl, hb⟩; have n0_ := Aside0.mk (blk_below (g := gb179) (o := .cells #[.int .i64 a0_0, .int .i64 a0_1, .int .i64 a0_2] 23 (0, 0)) (by (with_reducible repeat (first | refine blk_drewN ?_ _ | refine blk_drew ?_ | refine blk_alloc ?_ _)); exact BK179.out) hb); have n1_ := Aside0.mk (blk_below (g := gb180) (o := .cells #[.int .u32 a3_0, .int .u8 a3_1, .int .i64 a3_2, .int .i64 a3_3, .int .i64 a3_4] 28 (0, 0)) (by (with_reducible repeat (first | refine blk_drewN ?_ _ | refine blk_drew ?_ | refine blk_alloc ?_ _)); exact BK180.out) hb); have n2_ := Aside0.mk (blk_below (g := gb181) (o := .cells #[.int .u32 a4_0, .int .u8 a4_1, .int .i64 a4_2, .int .i64 a4_3, .int .i64 a4_4] 28 (0, 0)) (by (with_reducible repeat (first | refine blk_drewN ?_ _ | refine blk_drew ?_ | refine blk_alloc ?_ _)); exact BK181.out) hb); have n3_ := Aside0.mk (below_step (by repeat (first | (with_reducible first | exact HB.out | apply below_alloc | apply pw_below_drewN | apply below_drew1 | refine below_set ?_ GE179.out | refine below_set ?_ GE180.out | refine below_set ?_ GE181.out) | exact HB.out)) hb); clear BK179; clear BK180; clear BK181; clear HB; have BK179 := n0_; have BK180 := n1_; have BK181 := n2_; have HB := n3_; clear n0_ n1_ n2_ n3_; (try clear hb); (try clear hb2); (try clear hk); (try clear hi)))
           go_ret
           exact ⟨by first | rfl | (simp [errW_none, errW_some] <;> rfl) | (simp [*, errW_none, errW_some] <;> rfl), by repeat (first | (with_reducible first | exact HB.out | apply below_alloc | apply pw_below_drewN | apply below_drew1 | refine below_set ?_ GE179.out | refine below_set ?_ GE180.out | refine below_set ?_ GE181.out) | exact HB.out)⟩
          ·
           replace c45 := Bool.eq_false_iff.mpr c45
           subst c45
           have H1 : (some x16_20) = some r := by rw [if_neg (show ¬ (false = true) by decide)] at H; exact H
           clear H
           have H := H1
           clear H1
           obtain rfl := Option.some.inj H
           have hnb53 := NB179_180.out
           have hnc53 := NB180_179.out
           have hnb54 := NB179_181.out
           have hnc54 := NB181_179.out
           have hcz55_0 : wc.cell? ⟨gb179, 0, none⟩ = some (.int .i64 a0_0) := (blk_cell BK179.out 0).trans rfl
           have hcz55_1 : wc.cell? ⟨gb179, 1, none⟩ = some (.int .i64 a0_1) := (blk_cell BK179.out 1).trans rfl
           have hcz55_2 : wc.cell? ⟨gb179, 2, none⟩ = some (.int .i64 a0_2) := (blk_cell BK179.out 2).trans rfl
           have hfz55_0 := blk_frozen BK179.out 0
           have hfz55_1 := blk_frozen BK179.out 1
           have hfz55_2 := blk_frozen BK179.out 2
           have hnb56 := NB180_181.out
           have hnc56 := NB181_180.out
           have hcz57_0 : wc.cell? ⟨gb180, 0, none⟩ = some (.int .u32 a3_0) := (blk_cell BK180.out 0).trans rfl
           have hcz57_1 : wc.cell? ⟨gb180, 1, none⟩ = some (.int .u8 a3_1) := (blk_cell BK180.out 1).trans rfl
           have hcz57_2 : wc.cell? ⟨gb180, 2, none⟩ = some (.int .i64 a3_2) := (blk_cell BK180.out 2).trans rfl
           have hcz57_3 : wc.cell? ⟨gb180, 3, none⟩ = some (.int .i64 a3_3) := (blk_cell BK180.out 3).trans rfl
           have hcz57_4 : wc.cell? ⟨gb180, 4, none⟩ = some (.int .i64 a3_4) := (blk_cell BK180.out 4).trans rfl
           have hfz57_0 := blk_frozen BK180.out 0
           have hfz57_1 := blk_frozen BK180.out 1
           have hfz57_2 := blk_frozen BK180.out 2
           have hfz57_3 := blk_frozen BK180.out 3
           have hfz57_4 := blk_frozen BK180.out 4
           have hcz58_0 : wc.cell? ⟨gb181, 0, none⟩ = some (.int .u32 a4_0) := (blk_cell BK181.out 0).trans rfl
           have hcz58_1 : wc.cell? ⟨gb181, 1, none⟩ = some (.int .u8 a4_1) := (blk_cell BK181.out 1).trans rfl
           have hcz58_2 : wc.cell? ⟨gb181, 2, none⟩ = some (.int .i64 a4_2) := (blk_cell BK181.out 2).trans rfl
           have hcz58_3 : wc.cell? ⟨gb181, 3, none⟩ = some (.int .i64 a4_3) := (blk_cell BK181.out 3).trans rfl
           have hcz58_4 : wc.cell? ⟨gb181, 4, none⟩ = some (.int .i64 a4_4) := (blk_cell BK181.out 4).trans rfl
           have hfz58_0 := blk_frozen BK181.out 0
           have hfz58_1 := blk_frozen BK181.out 1
           have hfz58_2 := blk_frozen BK181.out 2
           have hfz58_3 := blk_frozen BK181.out 3
           have hfz58_4 := blk_frozen BK181.out 4
           go_wp2_with (first | (go_at_call 10; (with_reducible refine (pair_Holds.calls kj31 a0_0 a0_1 a0_2 a1 a2 a3_0 a3_1 a3_2 a3_3 a3_4 a4_0 a4_1 a4_2 a4_3 a4_4 0 true _ A43.out).mono ?_); rintro e w59 ⟨rfl, hb⟩; have n0_ := Aside0.mk (blk_below (g := gb179) (o := .cells #[.int .i64 a0_0, .int .i64 a0_1, .int .i64 a0_2] 23 (0, 0)) (by (with_reducible repeat (first | refine blk_drewN ?_ _ | refine blk_drew ?_ | refine blk_alloc ?_ _)); exact BK179.out) hb); have n1_ := Aside0.mk (blk_below (g := gb180) (o := .cells #[.int .u32 a3_0, .int .u8 a3_1, .int .i64 a3_2, .int .i64 a3_3, .int .i64 a3_4] 28 (0, 0)) (by (with_reducible repeat (first | refine blk_drewN ?_ _ | refine blk_drew ?_ | refine blk_alloc ?_ _)); exact BK180.out) hb); have n2_ := Aside0.mk (blk_below (g := gb181) (o := .cells #[.int .u32 a4_0, .int .u8 a4_1, .int .i64 a4_2, .int .i64 a4_3, .int .i64 a4_4] 28 (0, 0)) (by (with_reducible repeat (first | refine blk_drewN ?_ _ | refine blk_drew ?_ | refine blk_alloc ?_ _)); exact BK181.out) hb); have n3_ := Aside0.mk (below_step (by repeat (first | (with_reducible first | exact HB.out | apply below_alloc | apply pw_below_drewN | apply below_drew1 | refine below_set ?_ GE179.out | refine below_set ?_ GE180.out | refine below_set ?_ GE181.out) | exact HB.out)) hb); clear BK179; clear BK180; clear BK181; clear HB; have BK179 := n0_; have BK180 := n1_; have BK181 := n2_; have HB := n3_; clear n0_ n1_ n2_ n3_; (try clear hb); (try clear hb2); (try clear hk); (try clear hi)))
           go_ret
           exact ⟨by first | rfl | (simp [errW_none, errW_some] <;> rfl) | (simp [*, errW_none, errW_some] <;> rfl), by repeat (first | (with_reducible first | exact HB.out | apply below_alloc | apply pw_below_drewN | apply below_drew1 | refine below_set ?_ GE179.out | refine below_set ?_ GE180.out | refine below_set ?_ GE181.out) | exact HB.out)⟩
         ·
          replace c44 := Bool.eq_false_iff.mpr c44
          subst c44
          have H1 : (some true) = some r := by rw [if_neg (show ¬ (false = true) by decide)] at H; exact H
          clear H
          have H := H1
          clear H1
          obtain rfl := Option.some.inj H
          have hnb60 := NB179_180.out
          have hnc60 := NB180_179.out
          have hnb61 := NB179_181.out
          have hnc61 := NB181_179.out
          have hcz62_0 : wc.cell? ⟨gb179, 0, none⟩ = some (.int .i64 a0_0) := (blk_cell BK179.out 0).trans rfl
          have hcz62_1 : wc.cell? ⟨gb179, 1, none⟩ = some (.int .i64 a0_1) := (blk_cell BK179.out 1).trans rfl
          have hcz62_2 : wc.cell? ⟨gb179, 2, none⟩ = some (.int .i64 a0_2) := (blk_cell BK179.out 2).trans rfl
          have hfz62_0 := blk_frozen BK179.out 0
          have hfz62_1 := blk_frozen BK179.out 1
          have hfz62_2 := blk_frozen BK179.out 2
          have hnb63 := NB180_181.out
          have hnc63 := NB181_180.out
          have hcz64_0 : wc.cell? ⟨gb180, 0, none⟩ = some (.int .u32 a3_0) := (blk_cell BK180.out 0).trans rfl
          have hcz64_1 : wc.cell? ⟨gb180, 1, none⟩ = some (.int .u8 a3_1) := (blk_cell BK180.out 1).trans rfl
          have hcz64_2 : wc.cell? ⟨gb180, 2, none⟩ = some (.int .i64 a3_2) := (blk_cell BK180.out 2).trans rfl
          have hcz64_3 : wc.cell? ⟨gb180, 3, none⟩ = some (.int .i64 a3_3) := (blk_cell BK180.out 3).trans rfl
          have hcz64_4 : wc.cell? ⟨gb180, 4, none⟩ = some (.int .i64 a3_4) := (blk_cell BK180.out 4).trans rfl
          have hfz64_0 := blk_frozen BK180.out 0
          have hfz64_1 := blk_frozen BK180.out 1
          have hfz64_2 := blk_frozen BK180.out 2
          have hfz64_3 := blk_frozen BK180.out 3
          have hfz64_4 := blk_frozen BK180.out 4
          have hcz65_0 : wc.cell? ⟨gb181, 0, none⟩ = some (.int .u32 a4_0) := (blk_cell BK181.out 0).trans rfl
          have hcz65_1 : wc.cell? ⟨gb181, 1, none⟩ = some (.int .u8 a4_1) := (blk_cell BK181.out 1).trans rfl
          have hcz65_2 : wc.cell? ⟨gb181, 2, none⟩ = some (.int .i64 a4_2) := (blk_cell BK181.out 2).trans rfl
          have hcz65_3 : wc.cell? ⟨gb181, 3, none⟩ = some (.int .i64 a4_3) := (blk_cell BK181.out 3).trans rfl
          have hcz65_4 : wc.cell? ⟨gb181, 4, none⟩ = some (.int .i64 a4_4) := (blk_cell BK181.out 4).trans rfl
          have hfz65_0 := blk_frozen BK181.out 0
          have hfz65_1 := blk_frozen BK181.out 1
          have hfz65_2 := blk_frozen BK181.out 2
          have hfz65_3 := blk_frozen BK181.out 3
          have hfz65_4 := blk_frozen BK181.out 4
          go_wp2_with (first | (go_at_call 10; (with_reducible refine (pair_Holds.calls kj31 a0_0 a0_1 a0_2 a1 a2 a3_0 a3_1 a3_2 a3_3 a3_4 a4_0 a4_1 a4_2 a4_3 a4_4 0 false _ A43.out).mono ?_); rintro e w66 ⟨rfl, hb⟩; have n0_ := Aside0.mk (blk_below (g := gb179) (o := .cells #[.int .i64 a0_0, .int .i64 a0_1, .int .i64 a0_2] 23 (0, 0)) (by (with_reducible repeat (first | refine blk_drewN ?_ _ | refine blk_drew ?_ | refine blk_alloc ?_ _)); exact BK179.out) hb); have n1_ := Aside0.mk (blk_below (g := gb180) (o := .cells #[.int .u32 a3_0, .int .u8 a3_1, .int .i64 a3_2, .int .i64 a3_3, .int .i64 a3_4] 28 (0, 0)) (by (with_reducible repeat (first | refine blk_drewN ?_ _ | refine blk_drew ?_ | refine blk_alloc ?_ _)); exact BK180.out) hb); have n2_ := Aside0.mk (blk_below (g := gb181) (o := .cells #[.int .u32 a4_0, .int .u8 a4_1, .int .i64 a4_2, .int .i64 a4_3, .int .i64 a4_4] 28 (0, 0)) (by (with_reducible repeat (first | refine blk_drewN ?_ _ | refine blk_drew ?_ | refine blk_alloc ?_ _)); exact BK181.out) hb); have n3_ := Aside0.mk (below_step (by repeat (first | (with_reducible first | exact HB.out | apply below_alloc | apply pw_below_drewN | apply below_drew1 | refine below_set ?_ GE179.out | refine below_set ?_ GE180.out | refine below_set ?_ GE181.out) | exact HB.out)) hb); clear BK179; clear BK180; clear BK181; clear HB; have BK179 := n0_; have BK180 := n1_; have BK181 := n2_; have HB := n3_; clear n0_ n1_ n2_ n3_; (try clear hb); (try clear hb2); (try clear hk); (try clear hi)))
          go_ret
          exact ⟨by first | rfl | (simp [errW_none, errW_some] <;> rfl) | (simp [*, errW_none, errW_some] <;> rfl), by repeat (first | (with_reducible first | exact HB.out | apply below_alloc | apply pw_below_drewN | apply below_drew1 | refine below_set ?_ GE179.out | refine below_set ?_ GE180.out | refine below_set ?_ GE181.out) | exact HB.out)⟩
        ·
         replace c42 := Bool.eq_false_iff.mpr c42
         subst c42
         have H1 : (some false) = some r := by rw [if_neg (show ¬ (false = true) by decide)] at H; exact H
         clear H
         have H := H1
         clear H1
         obtain rfl := Option.some.inj H
         go_wp2
         go_ret
         exact ⟨by first | rfl | (simp [errW_none, errW_some] <;> rfl) | (simp [*, errW_none, errW_some] <;> rfl), by repeat (first | (with_reducible first | exact HB.out | apply below_alloc | apply pw_below_drewN | apply below_drew1 | refine below_set ?_ GE179.out | refine below_set ?_ GE180.out | refine below_set ?_ GE181.out) | exact HB.out)⟩
       ·
        replace c41 := Bool.eq_false_iff.mpr c41
        subst c41
        have H1 : (if t182 = true then (if x15_7 = true then (some (!t184)) else (some false)) else (if t183 = true then (if a3_4 = (-1) then (if x16_20 = true then (some (!t184)) else (if a1 = 10 then (some (!t184)) else (some false))) else (if x16_20 = true then (some (!t184)) else (if a4_4 = (-1) then (if a1 = 10 then (some (!t184)) else (some false)) else (some false)))) else (some false))) = some r := by rw [if_neg (show ¬ (false = true) by decide)] at H; exact H
        clear H
        have H := H1
        clear H1
        by_cases c67 : t182 = true
        ·
         subst c67
         have H1 : (if x15_7 = true then (some (!t184)) else (some false)) = some r := by rw [if_pos rfl] at H; exact H
         clear H
         have H := H1
         clear H1
         by_cases c68 : x15_7 = true
         ·
          subst c68
          have H1 : (some (!t184)) = some r := by rw [if_pos rfl] at H; exact H
          clear H
          have H := H1
          clear H1
          obtain rfl := Option.some.inj H
          go_wp2
          go_ret
          exact ⟨by first | rfl | (simp [errW_none, errW_some] <;> rfl) | (simp [*, errW_none, errW_some] <;> rfl), by repeat (first | (with_reducible first | exact HB.out | apply below_alloc | apply pw_below_drewN | apply below_drew1 | refine below_set ?_ GE179.out | refine below_set ?_ GE180.out | refine below_set ?_ GE181.out) | exact HB.out)⟩
         ·
          replace c68 := Bool.eq_false_iff.mpr c68
          subst c68
          have H1 : (some false) = some r := by rw [if_neg (show ¬ (false = true) by decide)] at H; exact H
          clear H
          have H := H1
          clear H1
          obtain rfl := Option.some.inj H
          go_wp2
          go_ret
          exact ⟨by first | rfl | (simp [errW_none, errW_some] <;> rfl) | (simp [*, errW_none, errW_some] <;> rfl), by repeat (first | (with_reducible first | exact HB.out | apply below_alloc | apply pw_below_drewN | apply below_drew1 | refine below_set ?_ GE179.out | refine below_set ?_ GE180.out | refine below_set ?_ GE181.out) | exact HB.out)⟩
        ·
         replace c67 := Bool.eq_false_iff.mpr c67
         subst c67
         have H1 : (if t183 = true then (if a3_4 = (-1) then (if x16_20 = true then (some (!t184)) else (if a1 = 10 then (some (!t184)) else (some false))) else (if x16_20 = true then (some (!t184)) else (if a4_4 = (-1) then (if a1 = 10 then (some (!t184)) else (some false)) else (some false)))) else (some false)) = some r := by rw [if_neg (show ¬ (false = true) by decide)] at H; exact H
         clear H
         have H := H1
         clear H1
         by_cases c69 : t183 = true
         ·
          subst c69
          have H1 : (if a3_4 = (-1) then (if x16_20 = true then (some (!t184)) else (if a1 = 10 then (some (!t184)) else (some false))) else (if x16_20 = true then (some (!t184)) else (if a4_4 = (-1) then (if a1 = 10 then (some (!t184)) else (some false)) else (some false)))) = some r := by rw [if_pos rfl] at H; exact H
          clear H
          have H := H1
          clear H1
          by_cases c70 : a3_4 = (-1)
          ·
           rw [if_pos c70] at H
           have c70b0 : (a3_4 == (-1)) = true := beq_iff_eq.mpr c70
           have c70b1 : (a3_4 != (-1)) = false := bne_eq_false_iff_eq.mpr c70
           clear c70
           by_cases c71 : x16_20 = true
           ·
            subst c71
            have H1 : (some (!t184)) = some r := by rw [if_pos rfl] at H; exact H
            clear H
            have H := H1
            clear H1
            obtain rfl := Option.some.inj H
            have hnb72 := NB180_179.out
            have hnc72 := NB179_180.out
            have hnb73 := NB180_181.out
            have hnc73 := NB181_180.out
            have hcz74_0 : wc.cell? ⟨gb180, 0, none⟩ = some (.int .u32 a3_0) := (blk_cell BK180.out 0).trans rfl
            have hcz74_1 : wc.cell? ⟨gb180, 1, none⟩ = some (.int .u8 a3_1) := (blk_cell BK180.out 1).trans rfl
            have hcz74_2 : wc.cell? ⟨gb180, 2, none⟩ = some (.int .i64 a3_2) := (blk_cell BK180.out 2).trans rfl
            have hcz74_3 : wc.cell? ⟨gb180, 3, none⟩ = some (.int .i64 a3_3) := (blk_cell BK180.out 3).trans rfl
            have hcz74_4 : wc.cell? ⟨gb180, 4, none⟩ = some (.int .i64 a3_4) := (blk_cell BK180.out 4).trans rfl
            have hfz74_0 := blk_frozen BK180.out 0
            have hfz74_1 := blk_frozen BK180.out 1
            have hfz74_2 := blk_frozen BK180.out 2
            have hfz74_3 := blk_frozen BK180.out 3
            have hfz74_4 := blk_frozen BK180.out 4
            go_wp2
            go_ret
            exact ⟨by first | rfl | (simp [errW_none, errW_some] <;> rfl) | (simp [*, errW_none, errW_some] <;> rfl), by repeat (first | (with_reducible first | exact HB.out | apply below_alloc | apply pw_below_drewN | apply below_drew1 | refine below_set ?_ GE179.out | refine below_set ?_ GE180.out | refine below_set ?_ GE181.out) | exact HB.out)⟩
           ·
            replace c71 := Bool.eq_false_iff.mpr c71
            subst c71
            have H1 : (if a1 = 10 then (some (!t184)) else (some false)) = some r := by rw [if_neg (show ¬ (false = true) by decide)] at H; exact H
            clear H
            have H := H1
            clear H1
            by_cases c75 : a1 = 10
            ·
             rw [if_pos c75] at H
             have c75b0 : (a1 == 10) = true := beq_iff_eq.mpr c75
             have c75b1 : (a1 != 10) = false := bne_eq_false_iff_eq.mpr c75
             clear c75
             obtain rfl := Option.some.inj H
             have hnb76 := NB180_179.out
             have hnc76 := NB179_180.out
             have hnb77 := NB180_181.out
             have hnc77 := NB181_180.out
             have hcz78_0 : wc.cell? ⟨gb180, 0, none⟩ = some (.int .u32 a3_0) := (blk_cell BK180.out 0).trans rfl
             have hcz78_1 : wc.cell? ⟨gb180, 1, none⟩ = some (.int .u8 a3_1) := (blk_cell BK180.out 1).trans rfl
             have hcz78_2 : wc.cell? ⟨gb180, 2, none⟩ = some (.int .i64 a3_2) := (blk_cell BK180.out 2).trans rfl
             have hcz78_3 : wc.cell? ⟨gb180, 3, none⟩ = some (.int .i64 a3_3) := (blk_cell BK180.out 3).trans rfl
             have hcz78_4 : wc.cell? ⟨gb180, 4, none⟩ = some (.int .i64 a3_4) := (blk_cell BK180.out 4).trans rfl
             have hfz78_0 := blk_frozen BK180.out 0
             have hfz78_1 := blk_frozen BK180.out 1
             have hfz78_2 := blk_frozen BK180.out 2
             have hfz78_3 := blk_frozen BK180.out 3
             have hfz78_4 := blk_frozen BK180.out 4
             go_wp2
             go_ret
             exact ⟨by first | rfl | (simp [errW_none, errW_some] <;> rfl) | (simp [*, errW_none, errW_some] <;> rfl), by repeat (first | (with_reducible first | exact HB.out | apply below_alloc | apply pw_below_drewN | apply below_drew1 | refine below_set ?_ GE179.out | refine below_set ?_ GE180.out | refine below_set ?_ GE181.out) | exact HB.out)⟩
            ·
             rw [if_neg c75] at H
             have c75b0 : (a1 == 10) = false := beq_eq_false_iff_ne.mpr c75
             have c75b1 : (a1 != 10) = true := bne_iff_ne.mpr c75
             obtain rfl := Option.some.inj H
             have hnb79 := NB180_179.out
             have hnc79 := NB179_180.out
             have hnb80 := NB180_181.out
             have hnc80 := NB181_180.out
             have hcz81_0 : wc.cell? ⟨gb180, 0, none⟩ = some (.int .u32 a3_0) := (blk_cell BK180.out 0).trans rfl
             have hcz81_1 : wc.cell? ⟨gb180, 1, none⟩ = some (.int .u8 a3_1) := (blk_cell BK180.out 1).trans rfl
             have hcz81_2 : wc.cell? ⟨gb180, 2, none⟩ = some (.int .i64 a3_2) := (blk_cell BK180.out 2).trans rfl
             have hcz81_3 : wc.cell? ⟨gb180, 3, none⟩ = some (.int .i64 a3_3) := (blk_cell BK180.out 3).trans rfl
             have hcz81_4 : wc.cell? ⟨gb180, 4, none⟩ = some (.int .i64 a3_4) := (blk_cell BK180.out 4).trans rfl
             have hfz81_0 := blk_frozen BK180.out 0
             have hfz81_1 := blk_frozen BK180.out 1
             have hfz81_2 := blk_frozen BK180.out 2
             have hfz81_3 := blk_frozen BK180.out 3
             have hfz81_4 := blk_frozen BK180.out 4
             go_wp2
             go_ret
             exact ⟨by first | rfl | (simp [errW_none, errW_some] <;> rfl) | (simp [*, errW_none, errW_some] <;> rfl), by repeat (first | (with_reducible first | exact HB.out | apply below_alloc | apply pw_below_drewN | apply below_drew1 | refine below_set ?_ GE179.out | refine below_set ?_ GE180.out | refine below_set ?_ GE181.out) | exact HB.out)⟩
          ·
           rw [if_neg c70] at H
           have c70b0 : (a3_4 == (-1)) = false := beq_eq_false_iff_ne.mpr c70
           have c70b1 : (a3_4 != (-1)) = true := bne_iff_ne.mpr c70
           by_cases c82 : x16_20 = true
           ·
            subst c82
            have H1 : (some (!t184)) = some r := by rw [if_pos rfl] at H; exact H
            clear H
            have H := H1
            clear H1
            obtain rfl := Option.some.inj H
            have hnb83 := NB180_179.out
            have hnc83 := NB179_180.out
            have hnb84 := NB180_181.out
            have hnc84 := NB181_180.out
            have hcz85_0 : wc.cell? ⟨gb180, 0, none⟩ = some (.int .u32 a3_0) := (blk_cell BK180.out 0).trans rfl
            have hcz85_1 : wc.cell? ⟨gb180, 1, none⟩ = some (.int .u8 a3_1) := (blk_cell BK180.out 1).trans rfl
            have hcz85_2 : wc.cell? ⟨gb180, 2, none⟩ = some (.int .i64 a3_2) := (blk_cell BK180.out 2).trans rfl
            have hcz85_3 : wc.cell? ⟨gb180, 3, none⟩ = some (.int .i64 a3_3) := (blk_cell BK180.out 3).trans rfl
            have hcz85_4 : wc.cell? ⟨gb180, 4, none⟩ = some (.int .i64 a3_4) := (blk_cell BK180.out 4).trans rfl
            have hfz85_0 := blk_frozen BK180.out 0
            have hfz85_1 := blk_frozen BK180.out 1
            have hfz85_2 := blk_frozen BK180.out 2
            have hfz85_3 := blk_frozen BK180.out 3
            have hfz85_4 := blk_frozen BK180.out 4
            have hnb86 := NB181_179.out
            have hnc86 := NB179_181.out
            have hcz87_0 : wc.cell? ⟨gb181, 0, none⟩ = some (.int .u32 a4_0) := (blk_cell BK181.out 0).trans rfl
            have hcz87_1 : wc.cell? ⟨gb181, 1, none⟩ = some (.int .u8 a4_1) := (blk_cell BK181.out 1).trans rfl
            have hcz87_2 : wc.cell? ⟨gb181, 2, none⟩ = some (.int .i64 a4_2) := (blk_cell BK181.out 2).trans rfl
            have hcz87_3 : wc.cell? ⟨gb181, 3, none⟩ = some (.int .i64 a4_3) := (blk_cell BK181.out 3).trans rfl
            have hcz87_4 : wc.cell? ⟨gb181, 4, none⟩ = some (.int .i64 a4_4) := (blk_cell BK181.out 4).trans rfl
            have hfz87_0 := blk_frozen BK181.out 0
            have hfz87_1 := blk_frozen BK181.out 1
            have hfz87_2 := blk_frozen BK181.out 2
            have hfz87_3 := blk_frozen BK181.out 3
            have hfz87_4 := blk_frozen BK181.out 4
            go_wp2
            go_ret
            exact ⟨by first | rfl | (simp [errW_none, errW_some] <;> rfl) | (simp [*, errW_none, errW_some] <;> rfl), by repeat (first | (with_reducible first | exact HB.out | apply below_alloc | apply pw_below_drewN | apply below_drew1 | refine below_set ?_ GE179.out | refine below_set ?_ GE180.out | refine below_set ?_ GE181.out) | exact HB.out)⟩
           ·
            replace c82 := Bool.eq_false_iff.mpr c82
            subst c82
            have H1 : (if a4_4 = (-1) then (if a1 = 10 then (some (!t184)) else (some false)) else (some false)) = some r := by rw [if_neg (show ¬ (false = true) by decide)] at H; exact H
            clear H
            have H := H1
            clear H1
            by_cases c88 : a4_4 = (-1)
            ·
             rw [if_pos c88] at H
             have c88b0 : (a4_4 == (-1)) = true := beq_iff_eq.mpr c88
             have c88b1 : (a4_4 != (-1)) = false := bne_eq_false_iff_eq.mpr c88
             clear c88
             by_cases c89 : a1 = 10
             ·
              rw [if_pos c89] at H
              have c89b0 : (a1 == 10) = true := beq_iff_eq.mpr c89
              have c89b1 : (a1 != 10) = false := bne_eq_false_iff_eq.mpr c89
              clear c89
              obtain rfl := Option.some.inj H
              have hnb90 := NB180_179.out
              have hnc90 := NB179_180.out
              have hnb91 := NB180_181.out
              have hnc91 := NB181_180.out
              have hcz92_0 : wc.cell? ⟨gb180, 0, none⟩ = some (.int .u32 a3_0) := (blk_cell BK180.out 0).trans rfl
              have hcz92_1 : wc.cell? ⟨gb180, 1, none⟩ = some (.int .u8 a3_1) := (blk_cell BK180.out 1).trans rfl
              have hcz92_2 : wc.cell? ⟨gb180, 2, none⟩ = some (.int .i64 a3_2) := (blk_cell BK180.out 2).trans rfl
              have hcz92_3 : wc.cell? ⟨gb180, 3, none⟩ = some (.int .i64 a3_3) := (blk_cell BK180.out 3).trans rfl
              have hcz92_4 : wc.cell? ⟨gb180, 4, none⟩ = some (.int .i64 a3_4) := (blk_cell BK180.out 4).trans rfl
              have hfz92_0 := blk_frozen BK180.out 0
              have hfz92_1 := blk_frozen BK180.out 1
              have hfz92_2 := blk_frozen BK180.out 2
              have hfz92_3 := blk_frozen BK180.out 3
              have hfz92_4 := blk_frozen BK180.out 4
              have hnb93 := NB181_179.out
              have hnc93 := NB179_181.out
              have hcz94_0 : wc.cell? ⟨gb181, 0, none⟩ = some (.int .u32 a4_0) := (blk_cell BK181.out 0).trans rfl
              have hcz94_1 : wc.cell? ⟨gb181, 1, none⟩ = some (.int .u8 a4_1) := (blk_cell BK181.out 1).trans rfl
              have hcz94_2 : wc.cell? ⟨gb181, 2, none⟩ = some (.int .i64 a4_2) := (blk_cell BK181.out 2).trans rfl
              have hcz94_3 : wc.cell? ⟨gb181, 3, none⟩ = some (.int .i64 a4_3) := (blk_cell BK181.out 3).trans rfl
              have hcz94_4 : wc.cell? ⟨gb181, 4, none⟩ = some (.int .i64 a4_4) := (blk_cell BK181.out 4).trans rfl
              have hfz94_0 := blk_frozen BK181.out 0
              have hfz94_1 := blk_frozen BK181.out 1
              have hfz94_2 := blk_frozen BK181.out 2
              have hfz94_3 := blk_frozen BK181.out 3
              have hfz94_4 := blk_frozen BK181.out 4
              go_wp2
              go_ret
              exact ⟨by first | rfl | (simp [errW_none, errW_some] <;> rfl) | (simp [*, errW_none, errW_some] <;> rfl), by repeat (first | (with_reducible first | exact HB.out | apply below_alloc | apply pw_below_drewN | apply below_drew1 | refine below_set ?_ GE179.out | refine below_set ?_ GE180.out | refine below_set ?_ GE181.out) | exact HB.out)⟩
             ·
              rw [if_neg c89] at H
              have c89b0 : (a1 == 10) = false := beq_eq_false_iff_ne.mpr c89
              have c89b1 : (a1 != 10) = true := bne_iff_ne.mpr c89
              obtain rfl := Option.some.inj H
              have hnb95 := NB180_179.out
              have hnc95 := NB179_180.out
              have hnb96 := NB180_181.out
              have hnc96 := NB181_180.out
              have hcz97_0 : wc.cell? ⟨gb180, 0, none⟩ = some (.int .u32 a3_0) := (blk_cell BK180.out 0).trans rfl
              have hcz97_1 : wc.cell? ⟨gb180, 1, none⟩ = some (.int .u8 a3_1) := (blk_cell BK180.out 1).trans rfl
              have hcz97_2 : wc.cell? ⟨gb180, 2, none⟩ = some (.int .i64 a3_2) := (blk_cell BK180.out 2).trans rfl
              have hcz97_3 : wc.cell? ⟨gb180, 3, none⟩ = some (.int .i64 a3_3) := (blk_cell BK180.out 3).trans rfl
              have hcz97_4 : wc.cell? ⟨gb180, 4, none⟩ = some (.int .i64 a3_4) := (blk_cell BK180.out 4).trans rfl
              have hfz97_0 := blk_frozen BK180.out 0
              have hfz97_1 := blk_frozen BK180.out 1
              have hfz97_2 := blk_frozen BK180.out 2
              have hfz97_3 := blk_frozen BK180.out 3
              have hfz97_4 := blk_frozen BK180.out 4
              have hnb98 := NB181_179.out
              have hnc98 := NB179_181.out
              have hcz99_0 : wc.cell? ⟨gb181, 0, none⟩ = some (.int .u32 a4_0) := (blk_cell BK181.out 0).trans rfl
              have hcz99_1 : wc.cell? ⟨gb181, 1, none⟩ = some (.int .u8 a4_1) := (blk_cell BK181.out 1).trans rfl
              have hcz99_2 : wc.cell? ⟨gb181, 2, none⟩ = some (.int .i64 a4_2) := (blk_cell BK181.out 2).trans rfl
              have hcz99_3 : wc.cell? ⟨gb181, 3, none⟩ = some (.int .i64 a4_3) := (blk_cell BK181.out 3).trans rfl
              have hcz99_4 : wc.cell? ⟨gb181, 4, none⟩ = some (.int .i64 a4_4) := (blk_cell BK181.out 4).trans rfl
              have hfz99_0 := blk_frozen BK181.out 0
              have hfz99_1 := blk_frozen BK181.out 1
              have hfz99_2 := blk_frozen BK181.out 2
              have hfz99_3 := blk_frozen BK181.out 3
              have hfz99_4 := blk_frozen BK181.out 4
              go_wp2
              go_ret
              exact ⟨by first | rfl | (simp [errW_none, errW_some] <;> rfl) | (simp [*, errW_none, errW_some] <;> rfl), by repeat (first | (with_reducible first | exact HB.out | apply below_alloc | apply pw_below_drewN | apply below_drew1 | refine below_set ?_ GE179.out | refine below_set ?_ GE180.out | refine below_set ?_ GE181.out) | exact HB.out)⟩
            ·
             rw [if_neg c88] at H
             have c88b0 : (a4_4 == (-1)) = false := beq_eq_false_iff_ne.mpr c88
             have c88b1 : (a4_4 != (-1)) = true := bne_iff_ne.mpr c88
             obtain rfl := Option.some.inj H
             have hnb100 := NB180_179.out
             have hnc100 := NB179_180.out
             have hnb101 := NB180_181.out
             have hnc101 := NB181_180.out
             have hcz102_0 : wc.cell? ⟨gb180, 0, none⟩ = some (.int .u32 a3_0) := (blk_cell BK180.out 0).trans rfl
             have hcz102_1 : wc.cell? ⟨gb180, 1, none⟩ = some (.int .u8 a3_1) := (blk_cell BK180.out 1).trans rfl
             have hcz102_2 : wc.cell? ⟨gb180, 2, none⟩ = some (.int .i64 a3_2) := (blk_cell BK180.out 2).trans rfl
             have hcz102_3 : wc.cell? ⟨gb180, 3, none⟩ = some (.int .i64 a3_3) := (blk_cell BK180.out 3).trans rfl
             have hcz102_4 : wc.cell? ⟨gb180, 4, none⟩ = some (.int .i64 a3_4) := (blk_cell BK180.out 4).trans rfl
             have hfz102_0 := blk_frozen BK180.out 0
             have hfz102_1 := blk_frozen BK180.out 1
             have hfz102_2 := blk_frozen BK180.out 2
             have hfz102_3 := blk_frozen BK180.out 3
             have hfz102_4 := blk_frozen BK180.out 4
             have hnb103 := NB181_179.out
             have hnc103 := NB179_181.out
             have hcz104_0 : wc.cell? ⟨gb181, 0, none⟩ = some (.int .u32 a4_0) := (blk_cell BK181.out 0).trans rfl
             have hcz104_1 : wc.cell? ⟨gb181, 1, none⟩ = some (.int .u8 a4_1) := (blk_cell BK181.out 1).trans rfl
             have hcz104_2 : wc.cell? ⟨gb181, 2, none⟩ = some (.int .i64 a4_2) := (blk_cell BK181.out 2).trans rfl
             have hcz104_3 : wc.cell? ⟨gb181, 3, none⟩ = some (.int .i64 a4_3) := (blk_cell BK181.out 3).trans rfl
             have hcz104_4 : wc.cell? ⟨gb181, 4, none⟩ = some (.int .i64 a4_4) := (blk_cell BK181.out 4).trans rfl
             have hfz104_0 := blk_frozen BK181.out 0
             have hfz104_1 := blk_frozen BK181.out 1
             have hfz104_2 := blk_frozen BK181.out 2
             have hfz104_3 := blk_frozen BK181.out 3
             have hfz104_4 := blk_frozen BK181.out 4
             go_wp2
             go_ret
             exact ⟨by first | rfl | (simp [errW_none, errW_some] <;> rfl) | (simp [*, errW_none, errW_some] <;> rfl), by repeat (first | (with_reducible first | exact HB.out | apply below_alloc | apply pw_below_drewN | apply below_drew1 | refine below_set ?_ GE179.out | refine below_set ?_ GE180.out | refine below_set ?_ GE181.out) | exact HB.out)⟩
         ·
          replace c69 := Bool.eq_false_iff.mpr c69
          subst c69
          have H1 : (some false) = some r := by rw [if_neg (show ¬ (false = true) by decide)] at H; exact H
          clear H
          have H := H1
          clear H1
          obtain rfl := Option.some.inj H
          go_wp2
          go_ret
          exact ⟨by first | rfl | (simp [errW_none, errW_some] <;> rfl) | (simp [*, errW_none, errW_some] <;> rfl), by repeat (first | (with_reducible first | exact HB.out | apply below_alloc | apply pw_below_drewN | apply below_drew1 | refine below_set ?_ GE179.out | refine below_set ?_ GE180.out | refine below_set ?_ GE181.out) | exact HB.out)⟩

end Go.Proofs.Ytddheiloodfkdaa.Q
