-- Written by a program of this claim's prover; Lean checks it.
import Derived.Test.YtddheiloodfkdaaQ0
import Derived.Test.YtddheiloodfkdaaQ16
import Derived.Test.YtddheiloodfkdaaQ17
import Derived.Test.YtddheiloodfkdaaQ19
import Derived.Test.YtddheiloodfkdaaQ22
import Derived.Test.YtddheiloodfkdaaQ24
namespace Go.Proofs.Ytddheiloodfkdaa.Q
open Go.RowKit Go.Proofs.YtddheiloodfkdaaW.PrintWords Go.Proofs.YtddheiloodfkdaaW.PrintLast Go.Proofs.YtddheiloodfkdaaW.PrintMore
attribute [local go_sem] max2_int min2_int max_two min_two max_three min_three max_four min_four   -- for this text's walks alone
set_option linter.unusedVariables false
set_option linter.unusedSimpArgs false

/-! ### horariumref15_times: function 34 -/
def horariumref15_times.f (k : Nat) (a0_0 : Int) (a0_1 : Int) (a0_2 : Int) (a1 : Int) (a2 : Int) (a3_0 : Int) (a3_1 : Int) (a3_2 : Int) (a3_3 : Int) (a4_0 : Int) (a4_1 : Int) (a4_2 : Int) (a4_3 : Int) (a5 : Int) : Option (Bool) := if a1 = 1 then (some (a3_2 == a4_2)) else (if a1 = 2 then ((horariumref15_slots.f a3_0 a3_1 a3_2 a3_3 a4_0 a4_1 a4_2 a4_3).bind fun t317 => (if t317 = true then (some true) else ((horariumref15_slots.f a4_0 a4_1 a4_2 a4_3 a3_0 a3_1 a3_2 a3_3).bind fun t318 => (some t318)))) else (if a1 = 3 then (if (wrap64 (a3_2 + a3_3)) ≤ a4_2 then (some true) else (some (decide ((wrap64 (a4_2 + a4_3)) ≤ a3_2)))) else (if a1 = 4 then ((horariumref15_inside.f ((a3_1) % 4294967296) ((a4_1) % 4294967296)).bind fun t319 => (if t319 = true then (some true) else ((horariumref15_inside.f ((a4_1) % 4294967296) ((a3_1) % 4294967296)).bind fun t320 => (some t320)))) else (if a1 = 5 then (some ((Go.bits .and .u8 a3_1 a4_1) == 0)) else (if a1 = 6 then ((horariumref15_inside.f a3_0 a4_0).bind fun t321 => (if t321 = true then (some true) else ((horariumref15_inside.f a4_0 a3_0).bind fun t322 => (some t322)))) else (if a1 = 7 then (some ((Go.bits .and .u32 a3_0 a4_0) == 0)) else (if a1 = 8 then ((horariumref09_Meet.f k a3_0 a3_1 a3_2 a3_3 a4_0 a4_1 a4_2 a4_3).bind fun t323 => (some t323)) else (if a1 = 9 then ((horariumref09_Meet.f k a3_0 a3_1 a3_2 a3_3 a4_0 a4_1 a4_2 a4_3).bind fun t324 => (some (!t324))) else (if a1 = 12 then ((horariumref09_First.f k a0_0 a0_1 a0_2 a3_0 a3_1 a3_2 a3_3).bind fun bt325 => ((horariumref09_First.f k a0_0 a0_1 a0_2 a4_0 a4_1 a4_2 a4_3).bind fun bt327 => (some (decide (bt325.2 < bt327.1))))) else (if a1 = 13 then ((horariumref09_SameDay.f k a3_0 a3_1 a3_2 a3_3 a4_0 a4_1 a4_2 a4_3).bind fun t329 => (if t329 = true then (some (decide ((wrap64 ((mx (wrap64 (a3_2 + a3_3)) (wrap64 (a4_2 + a4_3))) - (mn a3_2 a4_2))) ≤ a2))) else (some true))) else (if a1 = 14 then ((horariumref12_Reach.f k a3_0 a3_1 a3_2 a3_3 a4_0 a4_1 a4_2 a4_3 a5).bind fun t330 => (some t330)) else (some false))))))))))))
theorem horariumref15_times.mono : ∀ a0 a1 a2 a3 a4 a5 a6 a7 a8 a9 a10 a11 a12 a13 k, LeO (horariumref15_times.f k a0 a1 a2 a3 a4 a5 a6 a7 a8 a9 a10 a11 a12 a13) (horariumref15_times.f (k + 1) a0 a1 a2 a3 a4 a5 a6 a7 a8 a9 a10 a11 a12 a13) := by
  intro a0 a1 a2 a3 a4 a5 a6 a7 a8 a9 a10 a11 a12 a13 k
  unfold horariumref15_times.f
  repeat' first
      | (with_reducible exact horariumref09_First.mono _ _ _ _ _ _ _ _)
      | (with_reducible exact horariumref09_Meet.mono _ _ _ _ _ _ _ _ _)
      | (with_reducible exact horariumref09_SameDay.mono _ _ _ _ _ _ _ _ _)
      | (with_reducible exact horariumref12_Reach.mono _ _ _ _ _ _ _ _ _ _)
      | (with_reducible exact LeO.refl _)
      | (with_reducible exact LeO.none _)
      | (with_reducible refine LeO.ite ?_ ?_)
      | (with_reducible refine LeO.bind ?_ (fun _ => ?_))
      | exact horariumref09_First.mono _ _ _ _ _ _ _ _
      | exact horariumref09_Meet.mono _ _ _ _ _ _ _ _ _
      | exact horariumref09_SameDay.mono _ _ _ _ _ _ _ _ _
      | exact horariumref12_Reach.mono _ _ _ _ _ _ _ _ _ _
      | exact LeO.none _
      | refine LeO.ite ?_ ?_
      | refine LeO.bind ?_ (fun _ => ?_)
set_option maxHeartbeats 8000000 in
set_option maxRecDepth 100000 in
theorem horariumref15_times.calls (k : Nat) (a0_0 : Int) (a0_1 : Int) (a0_2 : Int) (a1 : Int) (a2 : Int) (a3_0 : Int) (a3_1 : Int) (a3_2 : Int) (a3_3 : Int) (a4_0 : Int) (a4_1 : Int) (a4_2 : Int) (a4_3 : Int) (a5 : Int) (r : Bool) (w : World) (h : horariumref15_times.f k a0_0 a0_1 a0_2 a1 a2 a3_0 a3_1 a3_2 a3_3 a4_0 a4_1 a4_2 a4_3 a5 = some r) :
  Calls Try.prog 34 #[.agg #[.int .i64 a0_0, .int .i64 a0_1, .int .i64 a0_2], .int .i64 a1, .int .i64 a2, .agg #[.int .u32 a3_0, .int .u8 a3_1, .int .i64 a3_2, .int .i64 a3_3], .agg #[.int .u32 a4_0, .int .u8 a4_1, .int .i64 a4_2, .int .i64 a4_3], .int .i64 a5] w fun e w' => e = .returned (.bool r) ∧ Below w.heap.size w w' := by
 have hu23 := Try.underlying23
 have hu26 := Try.underlying26
 have HB := Aside0.mk (Below.refl w.heap.size w)
 have H : (if a1 = 1 then (some (a3_2 == a4_2)) else (if a1 = 2 then ((horariumref15_slots.f a3_0 a3_1 a3_2 a3_3 a4_0 a4_1 a4_2 a4_3).bind fun t317 => (if t317 = true then (some true) else ((horariumref15_slots.f a4_0 a4_1 a4_2 a4_3 a3_0 a3_1 a3_2 a3_3).bind fun t318 => (some t318)))) else (if a1 = 3 then (if (wrap64 (a3_2 + a3_3)) ≤ a4_2 then (some true) else (some (decide ((wrap64 (a4_2 + a4_3)) ≤ a3_2)))) else (if a1 = 4 then ((horariumref15_inside.f ((a3_1) % 4294967296) ((a4_1) % 4294967296)).bind fun t319 => (if t319 = true then (some true) else ((horariumref15_inside.f ((a4_1) % 4294967296) ((a3_1) % 4294967296)).bind fun t320 => (some t320)))) else (if a1 = 5 then (some ((Go.bits .and .u8 a3_1 a4_1) == 0)) else (if a1 = 6 then ((horariumref15_inside.f a3_0 a4_0).bind fun t321 => (if t321 = true then (some true) else ((horariumref15_inside.f a4_0 a3_0).bind fun t322 => (some t322)))) else (if a1 = 7 then (some ((Go.bits .and .u32 a3_0 a4_0) == 0)) else (if a1 = 8 then ((horariumref09_Meet.f k a3_0 a3_1 a3_2 a3_3 a4_0 a4_1 a4_2 a4_3).bind fun t323 => (some t323)) else (if a1 = 9 then ((horariumref09_Meet.f k a3_0 a3_1 a3_2 a3_3 a4_0 a4_1 a4_2 a4_3).bind fun t324 => (some (!t324))) else (if a1 = 12 then ((horariumref09_First.f k a0_0 a0_1 a0_2 a3_0 a3_1 a3_2 a3_3).bind fun bt325 => ((horariumref09_First.f k a0_0 a0_1 a0_2 a4_0 a4_1 a4_2 a4_3).bind fun bt327 => (some (decide (bt325.2 < bt327.1))))) else (if a1 = 13 then ((horariumref09_SameDay.f k a3_0 a3_1 a3_2 a3_3 a4_0 a4_1 a4_2 a4_3).bind fun t329 => (if t329 = true then (some (decide ((wrap64 ((mx (wrap64 (a3_2 + a3_3)) (wrap64 (a4_2 + a4_3))) - (mn a3_2 a4_2))) ≤ a2))) else (some true))) else (if a1 = 14 then ((horariumref12_Reach.f k a3_0 a3_1 a3_2 a3_3 a4_0 a4_1 a4_2 a4_3 a5).bind fun t330 => (some t330)) else (some false))))))))))))) = some r := h
 clear h
 have HC0_ := Aside0.mk H
 clear H
 go_enter Try.func34, Try.ntmps34
 go_upto_region 1 with (first | ((with_reducible refine gate_dst (N := 6) rfl ?_); (try (refine gate_guard (by rfl) ?_; dsimp only)); refine box_event ?hg (N := 6) ?hd (cs := #[.int .i64 a0_0, .int .i64 a0_1, .int .i64 a0_2]) (t := 23) ?hr ?_; (case hd => rfl); (case hg => rfl); (case hr => first | (go_simp; done) | (go_simp; rfl)); intro gb314 hg w8 hbox hb; have n0_ := Aside0.mk (below_step (by repeat (first | (with_reducible first | exact HB.out | apply below_alloc | apply pw_below_drewN | apply below_drew1) | exact HB.out)) hb); have n1_ := Aside0.mk (hbox); have n2_ := Aside0.mk ((by rw [hg]; exact (below_size (by repeat (first | (with_reducible first | exact HB.out | apply below_alloc | apply pw_below_drewN | apply below_drew1) | exact HB.out))) : w.heap.size ≤ gb314)); have n3_ := Aside0.mk ((by rw [hg]; exact (below_size (by repeat (first | (with_reducible first | exact HB.out | apply below_alloc | apply pw_below_drewN | apply below_drew1) | exact HB.out))) : w.heap.size ≤ gb314)); clear HB; have HB := n0_; have BK314 := n1_; have GW314 := n2_; have GE314 := n3_; clear n0_ n1_ n2_ n3_; clear hb hbox hg) | ((with_reducible refine gate_dst (N := 9) rfl ?_); (try (refine gate_guard (by rfl) ?_; dsimp only)); refine box_event ?hg (N := 9) ?hd (cs := #[.int .u32 a3_0, .int .u8 a3_1, .int .i64 a3_2, .int .i64 a3_3]) (t := 26) ?hr ?_; (case hd => rfl); (case hg => rfl); (case hr => first | (go_simp; done) | (go_simp; rfl)); intro gb315 hg w9 hbox hb; have n0_ := Aside0.mk (blk_below (g := gb314) (o := .cells #[.int .i64 a0_0, .int .i64 a0_1, .int .i64 a0_2] 23 (0, 0)) (by (with_reducible repeat (first | refine blk_drewN ?_ _ | refine blk_drew ?_ | refine blk_alloc ?_ _)); exact BK314.out) hb); have n1_ := Aside0.mk (below_step (by repeat (first | (with_reducible first | exact HB.out | apply below_alloc | apply pw_below_drewN | apply below_drew1 | refine below_set ?_ GE314.out) | exact HB.out)) hb); have n2_ := Aside0.mk (hbox); have n3_ := Aside0.mk ((by rw [hg]; exact (below_size (by repeat (first | (with_reducible first | exact HB.out | apply below_alloc | apply pw_below_drewN | apply below_drew1 | refine below_set ?_ GE314.out) | exact HB.out))) : w.heap.size ≤ gb315)); have n4_ := Aside0.mk ((by rw [hg]; exact (below_size (by repeat (first | (with_reducible first | exact HB.out | apply below_alloc | apply pw_below_drewN | apply below_drew1 | refine below_set ?_ GE314.out) | exact HB.out))) : w.heap.size ≤ gb315)); have n5_ := Aside0.mk ((by rw [hg]; exact Nat.ne_of_lt (blk_lt (g := gb314) (o := .cells #[.int .i64 a0_0, .int .i64 a0_1, .int .i64 a0_2] 23 (0, 0)) (by (with_reducible repeat (first | refine blk_drewN ?_ _ | refine blk_drew ?_ | refine blk_alloc ?_ _)); exact BK314.out)) : gb314 ≠ gb315)); have n6_ := Aside0.mk ((by rw [hg]; exact Nat.ne_of_gt (blk_lt (g := gb314) (o := .cells #[.int .i64 a0_0, .int .i64 a0_1, .int .i64 a0_2] 23 (0, 0)) (by (with_reducible repeat (first | refine blk_drewN ?_ _ | refine blk_drew ?_ | refine blk_alloc ?_ _)); exact BK314.out)) : gb315 ≠ gb314)); clear BK314; clear HB; have BK314 := n0_; have HB := n1_; have BK315 := n2_; have GW315 := n3_; have GE315 := n4_; have NB314_315 := n5_; have NB315_314 := n6_; clear n0_ n1_ n2_ n3_ n4_ n5_ n6_; clear hb hbox hg) | ((with_reducible refine gate_dst (N := 10) rfl ?_); (try (refine gate_guard (by rfl) ?_; dsimp only)); refine box_event ?hg (N := 10) ?hd (cs := #[.int .u32 a4_0, .int .u8 a4_1, .int .i64 a4_2, .int .i64 a4_3]) (t := 26) ?hr ?_; (case hd => rfl); (case hg => rfl); (case hr => first | (go_simp; done) | (go_simp; rfl)); intro gb316 hg w10 hbox hb; have n0_ := Aside0.mk (blk_below (g := gb314) (o := .cells #[.int .i64 a0_0, .int .i64 a0_1, .int .i64 a0_2] 23 (0, 0)) (by (with_reducible repeat (first | refine blk_drewN ?_ _ | refine blk_drew ?_ | refine blk_alloc ?_ _)); exact BK314.out) hb); have n1_ := Aside0.mk (blk_below (g := gb315) (o := .cells #[.int .u32 a3_0, .int .u8 a3_1, .int .i64 a3_2, .int .i64 a3_3] 26 (0, 0)) (by (with_reducible repeat (first | refine blk_drewN ?_ _ | refine blk_drew ?_ | refine blk_alloc ?_ _)); exact BK315.out) hb); have n2_ := Aside0.mk (below_step (by repeat (first | (with_reducible first | exact HB.out | apply below_alloc | apply pw_below_drewN | apply below_drew1 | refine below_set ?_ GE314.out | refine below_set ?_ GE315.out) | exact HB.out)) hb); have n3_ := Aside0.mk (hbox); have n4_ := Aside0.mk ((by rw [hg]; exact (below_size (by repeat (first | (with_reducible first | exact HB.out | apply below_alloc | apply pw_below_drewN | apply below_drew1 | refine below_set ?_ GE314.out | refine below_set ?_ GE315.out) | exact HB.out))) : w.heap.size ≤ gb316)); have n5_ := Aside0.mk ((by rw [hg]; exact (below_size (by repeat (first | (with_reducible first | exact HB.out | apply below_alloc | apply pw_below_drewN | apply below_drew1 | refine below_set ?_ GE314.out | refine below_set ?_ GE315.out) | exact HB.out))) : w.heap.size ≤ gb316)); have n6_ := Aside0.mk ((by rw [hg]; exact Nat.ne_of_lt (blk_lt (g := gb314) (o := .cells #[.int .i64 a0_0, .int .i64 a0_1, .int .i64 a0_2] 23 (0, 0)) (by (with_reducible repeat (first | refine blk_drewN ?_ _ | refine blk_drew ?_ | refine blk_alloc ?_ _)); exact BK314.out)) : gb314 ≠ gb316)); have n7_ := Aside0.mk ((by rw [hg]; exact Nat.ne_of_gt (blk_lt (g := gb314) (o := .cells #[.int .i64 a0_0, .int .i64 a0_1, .int .i64 a0_2] 23 (0, 0)) (by (with_reducible repeat (first | refine blk_drewN ?_ _ | refine blk_drew ?_ | refine blk_alloc ?_ _)); exact BK314.out)) : gb316 ≠ gb314)); have n8_ := Aside0.mk ((by rw [hg]; exact Nat.ne_of_lt (blk_lt (g := gb315) (o := .cells #[.int .u32 a3_0, .int .u8 a3_1, .int .i64 a3_2, .int .i64 a3_3] 26 (0, 0)) (by (with_reducible repeat (first | refine blk_drewN ?_ _ | refine blk_drew ?_ | refine blk_alloc ?_ _)); exact BK315.out)) : gb315 ≠ gb316)); have n9_ := Aside0.mk ((by rw [hg]; exact Nat.ne_of_gt (blk_lt (g := gb315) (o := .cells #[.int .u32 a3_0, .int .u8 a3_1, .int .i64 a3_2, .int .i64 a3_3] 26 (0, 0)) (by (with_reducible repeat (first | refine blk_drewN ?_ _ | refine blk_drew ?_ | refine blk_alloc ?_ _)); exact BK315.out)) : gb316 ≠ gb315)); clear BK314; clear BK315; clear HB; have BK314 := n0_; have BK315 := n1_; have HB := n2_; have BK316 := n3_; have GW316 := n4_; have GE316 := n5_; have NB314_316 := n6_; have NB316_314 := n7_; have NB315_316 := n8_; have NB316_315 := n9_; clear n0_ n1_ n2_ n3_ n4_ n5_ n6_ n7_ n8_ n9_; clear hb hbox hg))
 have hnb11 := NB315_314.out
 have hnc11 := NB314_315.out
 have hnb12 := NB315_316.out
 have hnc12 := NB316_315.out
 have hcz13_0 : w10.cell? ⟨gb315, 0, none⟩ = some (.int .u32 a3_0) := (blk_cell BK315.out 0).trans rfl
 have hcz13_1 : w10.cell? ⟨gb315, 1, none⟩ = some (.int .u8 a3_1) := (blk_cell BK315.out 1).trans rfl
 have hcz13_2 : w10.cell? ⟨gb315, 2, none⟩ = some (.int .i64 a3_2) := (blk_cell BK315.out 2).trans rfl
 have hcz13_3 : w10.cell? ⟨gb315, 3, none⟩ = some (.int .i64 a3_3) := (blk_cell BK315.out 3).trans rfl
 have hfz13_0 := blk_frozen BK315.out 0
 have hfz13_1 := blk_frozen BK315.out 1
 have hfz13_2 := blk_frozen BK315.out 2
 have hfz13_3 := blk_frozen BK315.out 3
 have hnb14 := NB316_314.out
 have hnc14 := NB314_316.out
 have hcz15_0 : w10.cell? ⟨gb316, 0, none⟩ = some (.int .u32 a4_0) := (blk_cell BK316.out 0).trans rfl
 have hcz15_1 : w10.cell? ⟨gb316, 1, none⟩ = some (.int .u8 a4_1) := (blk_cell BK316.out 1).trans rfl
 have hcz15_2 : w10.cell? ⟨gb316, 2, none⟩ = some (.int .i64 a4_2) := (blk_cell BK316.out 2).trans rfl
 have hcz15_3 : w10.cell? ⟨gb316, 3, none⟩ = some (.int .i64 a4_3) := (blk_cell BK316.out 3).trans rfl
 have hfz15_0 := blk_frozen BK316.out 0
 have hfz15_1 := blk_frozen BK316.out 1
 have hfz15_2 := blk_frozen BK316.out 2
 have hfz15_3 := blk_frozen BK316.out 3
 have hcz147_0 : w10.cell? ⟨gb314, 0, none⟩ = some (.int .i64 a0_0) := (blk_cell BK314.out 0).trans rfl
 have hcz147_1 : w10.cell? ⟨gb314, 1, none⟩ = some (.int .i64 a0_1) := (blk_cell BK314.out 1).trans rfl
 have hcz147_2 : w10.cell? ⟨gb314, 2, none⟩ = some (.int .i64 a0_2) := (blk_cell BK314.out 2).trans rfl
 have hfz147_0 := blk_frozen BK314.out 0
 have hfz147_1 := blk_frozen BK314.out 1
 have hfz147_2 := blk_frozen BK314.out 2
 have H := HC0_.out
 clear HC0_
 by_cases c7 : a1 = 1
 ·
  rw [if_pos c7] at H
  have c7b0 : (a1 == 1) = true := beq_iff_eq.mpr c7
  have c7b1 : (a1 != 1) = false := bne_eq_false_iff_eq.mpr c7
  clear c7
  obtain rfl := Option.some.inj H
  go_wp2_with (fail)
  go_ret
  exact ⟨by first | rfl | (simp [errW_none, errW_some] <;> rfl) | (simp [*, errW_none, errW_some] <;> rfl), by repeat (first | (with_reducible first | exact HB.out | apply below_alloc | apply pw_below_drewN | apply below_drew1 | refine below_set ?_ GE314.out | refine below_set ?_ GE315.out | refine below_set ?_ GE316.out) | exact HB.out)⟩
 ·
  rw [if_neg c7] at H
  have c7b0 : (a1 == 1) = false := beq_eq_false_iff_ne.mpr c7
  have c7b1 : (a1 != 1) = true := bne_iff_ne.mpr c7
  by_cases c16 : a1 = 2
  ·
   rw [if_pos c16] at H
   have c16b0 : (a1 == 2) = true := beq_iff_eq.mpr c16
   have c16b1 : (a1 != 2) = false := bne_eq_false_iff_eq.mpr c16
   clear c16
   replace H := Option.bind_eq_some_iff.mp H
   obtain ⟨t317, A170, H⟩ := H
   replace H : (if t317 = true then (some true) else ((horariumref15_slots.f a4_0 a4_1 a4_2 a4_3 a3_0 a3_1 a3_2 a3_3).bind fun t318 => (some t318))) = some r := H
   have A17 := Aside0.mk A170
   clear A170
   by_cases c18 : t317 = true
   ·
    subst c18
    have H1 : (some true) = some r := by rw [if_pos rfl] at H; exact H
    clear H
    have H := H1
    clear H1
    obtain rfl := Option.some.inj H
    go_wp2_with (first | ((with_reducible refine gate_callee (f := 45) rfl ?_); refine goesL_ (some 29) rfl rfl Try.func45 (by kernel_rfl) rfl #[.agg #[.int .u32 a3_0, .int .u8 a3_1, .int .i64 a3_2, .int .i64 a3_3], .agg #[.int .u32 a4_0, .int .u8 a4_1, .int .i64 a4_2, .int .i64 a4_3]] rfl (by (try simp only [List.map_toArray, List.map_cons, List.map_nil]); first | done | rfl | (simp only [List.length_drop, List.length_take]; rfl)) ?_; (with_reducible refine (horariumref15_slots.calls a3_0 a3_1 a3_2 a3_3 a4_0 a4_1 a4_2 a4_3 true _ A17.out).mono ?_); rintro e w27 ⟨rfl, hb⟩; refine ⟨_, rfl, ?_⟩; have n0_ := Aside0.mk (blk_below (g := gb314) (o := .cells #[.int .i64 a0_0, .int .i64 a0_1, .int .i64 a0_2] 23 (0, 0)) (by (with_reducible repeat (first | refine blk_drewN ?_ _ | refine blk_drew ?_ | refine blk_alloc ?_ _)); exact BK314.out) hb); have n1_ := Aside0.mk (blk_below (g := gb315) (o := .cells #[.int .u32 a3_0, .int .u8 a3_1, .int .i64 a3_2, .int .i64 a3_3] 26 (0, 0)) (by (with_reducible repeat (first | refine blk_drewN ?_ _ | refine blk_drew ?_ | refine blk_alloc ?_ _)); exact BK315.out) hb); have n2_ := Aside0.mk (blk_below (g := gb316) (o := .cells #[.int .u32 a4_0, .int .u8 a4_1, .int .i64 a4_2, .int .i64 a4_3] 26 (0, 0)) (by (with_reducible repeat (first | refine blk_drewN ?_ _ | refine blk_drew ?_ | refine blk_alloc ?_ _)); exact BK316.out) hb); have n3_ := Aside0.mk (below_step (by repeat (first | (with_reducible first | exact HB.out | apply below_alloc | apply pw_below_drewN | apply below_drew1 | refine below_set ?_ GE314.out | refine below_set ?_ GE315.out | refine below_set ?_ GE316.out) | exact HB.out)) hb); clear BK314; clear BK315; clear BK316; clear HB; have BK314 := n0_; have BK315 := n1_; have BK316 := n2_; have HB := n3_; clear n0_ n1_ n2_ n3_; (try clear hb); (try clear hb2); (try clear hk); (try clear hi)))
    go_ret
    exact ⟨by first | rfl | (simp [errW_none, errW_some] <;> rfl) | (simp [*, errW_none, errW_some] <;> rfl), by repeat (first | (with_reducible first | exact HB.out | apply below_alloc | apply pw_below_drewN | apply below_drew1 | refine below_set ?_ GE314.out | refine below_set ?_ GE315.out | refine below_set ?_ GE316.out) | exact HB.out)⟩
   ·
    replace c18 := Bool.eq_false_iff.mpr c18
    subst c18
    have H1 : ((horariumref15_slots.f a4_0 a4_1 a4_2 a4_3 a3_0 a3_1 a3_2 a3_3).bind fun t318 => (some t318)) = some r := by rw [if_neg (show ¬ (false = true) by decide)] at H; exact H
    clear H
    have H := H1
    clear H1
    replace H := Option.bind_eq_some_iff.mp H
    obtain ⟨t318, A280, H⟩ := H
    replace H : (some t318) = some r := H
    have A28 := Aside0.mk A280
    clear A280
    obtain rfl := Option.some.inj H
    go_wp2_with (first | ((with_reducible refine gate_callee (f := 45) rfl ?_); refine goesL_ (some 29) rfl rfl Try.func45 (by kernel_rfl) rfl #[.agg #[.int .u32 a3_0, .int .u8 a3_1, .int .i64 a3_2, .int .i64 a3_3], .agg #[.int .u32 a4_0, .int .u8 a4_1, .int .i64 a4_2, .int .i64 a4_3]] rfl (by (try simp only [List.map_toArray, List.map_cons, List.map_nil]); first | done | rfl | (simp only [List.length_drop, List.length_take]; rfl)) ?_; (with_reducible refine (horariumref15_slots.calls a3_0 a3_1 a3_2 a3_3 a4_0 a4_1 a4_2 a4_3 false _ A17.out).mono ?_); rintro e w37 ⟨rfl, hb⟩; refine ⟨_, rfl, ?_⟩; have n0_ := Aside0.mk (blk_below (g := gb314) (o := .cells #[.int .i64 a0_0, .int .i64 a0_1, .int .i64 a0_2] 23 (0, 0)) (by (with_reducible repeat (first | refine blk_drewN ?_ _ | refine blk_drew ?_ | refine blk_alloc ?_ _)); exact BK314.out) hb); have n1_ := Aside0.mk (blk_below (g := gb315) (o := .cells #[.int .u32 a3_0, .int .u8 a3_1, .int .i64 a3_2, .int .i64 a3_3] 26 (0, 0)) (by (with_reducible repeat (first | refine blk_drewN ?_ _ | refine blk_drew ?_ | refine blk_alloc ?_ _)); exact BK315.out) hb); have n2_ := Aside0.mk (blk_below (g := gb316) (o := .cells #[.int .u32 a4_0, .int .u8 a4_1, .int .i64 a4_2, .int .i64 a4_3] 26 (0, 0)) (by (with_reducible repeat (first | refine blk_drewN ?_ _ | refine blk_drew ?_ | refine blk_alloc ?_ _)); exact BK316.out) hb); have n3_ := Aside0.mk (below_step (by repeat (first | (with_reducible first | exact HB.out | apply below_alloc | apply pw_below_drewN | apply below_drew1 | refine below_set ?_ GE314.out | refine below_set ?_ GE315.out | refine below_set ?_ GE316.out) | exact HB.out)) hb); clear BK314; clear BK315; clear BK316; clear HB; have BK314 := n0_; have BK315 := n1_; have BK316 := n2_; have HB := n3_; clear n0_ n1_ n2_ n3_; (try clear hb); (try clear hb2); (try clear hk); (try clear hi); have hcz38_0 : w37.cell? ⟨gb316, 0, none⟩ = some (.int .u32 a4_0) := (blk_cell BK316.out 0).trans rfl; have hcz38_1 : w37.cell? ⟨gb316, 1, none⟩ = some (.int .u8 a4_1) := (blk_cell BK316.out 1).trans rfl; have hcz38_2 : w37.cell? ⟨gb316, 2, none⟩ = some (.int .i64 a4_2) := (blk_cell BK316.out 2).trans rfl; have hcz38_3 : w37.cell? ⟨gb316, 3, none⟩ = some (.int .i64 a4_3) := (blk_cell BK316.out 3).trans rfl; have hfz38_0 := blk_frozen BK316.out 0; have hfz38_1 := blk_frozen BK316.out 1; have hfz38_2 := blk_frozen BK316.out 2; have hfz38_3 := blk_frozen BK316.out 3; have hcz39_0 : w37.cell? ⟨gb315, 0, none⟩ = some (.int .u32 a3_0) := (blk_cell BK315.out 0).trans rfl; have hcz39_1 : w37.cell? ⟨gb315, 1, none⟩ = some (.int .u8 a3_1) := (blk_cell BK315.out 1).trans rfl; have hcz39_2 : w37.cell? ⟨gb315, 2, none⟩ = some (.int .i64 a3_2) := (blk_cell BK315.out 2).trans rfl; have hcz39_3 : w37.cell? ⟨gb315, 3, none⟩ = some (.int .i64 a3_3) := (blk_cell BK315.out 3).trans rfl; have hfz39_0 := blk_frozen BK315.out 0; have hfz39_1 := blk_frozen BK315.out 1; have hfz39_2 := blk_frozen BK315.out 2; have hfz39_3 := blk_frozen BK315.out 3) | (go_at_call 45; (with_reducible refine (horariumref15_slots.calls a4_0 a4_1 a4_2 a4_3 a3_0 a3_1 a3_2 a3_3 t318 _ A28.out).mono ?_); rintro e w40 ⟨rfl, hb⟩; have n0_ := Aside0.mk (blk_below (g := gb314) (o := .cells #[.int .i64 a0_0, .int .i64 a0_1, .int .i64 a0_2] 23 (0, 0)) (by (with_reducible repeat (first | refine blk_drewN ?_ _ | refine blk_drew ?_ | refine blk_alloc ?_ _)); exact BK314.out) hb); have n1_ := Aside0.mk (blk_below (g := gb315) (o := .cells #[.int .u32 a3_0, .int .u8 a3_1, .int .i64 a3_2, .int .i64 a3_3] 26 (0, 0)) (by (with_reducible repeat (first | refine blk_drewN ?_ _ | refine blk_drew ?_ | refine blk_alloc ?_ _)); exact BK315.out) hb); have n2_ := Aside0.mk (blk_below (g := gb316) (o := .cells #[.int .u32 a4_0, .int .u8 a4_1, .int .i64 a4_2, .int .i64 a4_3] 26 (0, 0)) (by (with_reducible repeat (first | refine blk_drewN ?_ _ | refine blk_drew ?_ | refine blk_alloc ?_ _)); exact BK316.out) hb); have n3_ := Aside0.mk (below_step (by repeat (first | (with_reducible first | exact HB.out | apply below_alloc | apply pw_below_drewN | apply below_drew1 | refine below_set ?_ GE314.out | refine below_set ?_ GE315.out | refine below_set ?_ GE316.out) | exact HB.out)) hb); clear BK314; clear BK315; clear BK316; clear HB; have BK314 := n0_; have BK315 := n1_; have BK316 := n2_; have HB := n3_; clear n0_ n1_ n2_ n3_; (try clear hb); (try clear hb2); (try clear hk); (try clear hi)))
    go_ret
    exact ⟨by first | rfl | (simp [errW_none, errW_some] <;> rfl) | (simp [*, errW_none, errW_some] <;> rfl), by repeat (first | (with_reducible first | exact HB.out | apply below_alloc | apply pw_below_drewN | apply below_drew1 | refine below_set ?_ GE314.out | refine below_set ?_ GE315.out | refine below_set ?_ GE316.out) | exact HB.out)⟩
  ·
   rw [if_neg c16] at H
   have c16b0 : (a1 == 2) = false := beq_eq_false_iff_ne.mpr c16
   have c16b1 : (a1 != 2) = true := bne_iff_ne.mpr c16
   by_cases c41 : a1 = 3
   ·
    rw [if_pos c41] at H
    have c41b0 : (a1 == 3) = true := beq_iff_eq.mpr c41
    have c41b1 : (a1 != 3) = false := bne_eq_false_iff_eq.mpr c41
    clear c41
    by_cases c42 : (wrap64 (a3_2 + a3_3)) ≤ a4_2
    ·
     rw [if_pos c42] at H
     have c42b0 : decide ((wrap64 (a3_2 + a3_3)) ≤ a4_2) = true := decide_eq_true c42
     clear c42
     obtain rfl := Option.some.inj H
     go_wp2_with (fail)
     go_ret
     exact ⟨by first | rfl | (simp [errW_none, errW_some] <;> rfl) | (simp [*, errW_none, errW_some] <;> rfl), by repeat (first | (with_reducible first | exact HB.out | apply below_alloc | apply pw_below_drewN | apply below_drew1 | refine below_set ?_ GE314.out | refine below_set ?_ GE315.out | refine below_set ?_ GE316.out) | exact HB.out)⟩
    ·
     rw [if_neg c42] at H
     have c42b0 : decide ((wrap64 (a3_2 + a3_3)) ≤ a4_2) = false := decide_eq_false c42
     clear c42
     obtain rfl := Option.some.inj H
     go_wp2_with (fail)
     go_ret
     exact ⟨by first | rfl | (simp [errW_none, errW_some] <;> rfl) | (simp [*, errW_none, errW_some] <;> rfl), by repeat (first | (with_reducible first | exact HB.out | apply below_alloc | apply pw_below_drewN | apply below_drew1 | refine below_set ?_ GE314.out | refine below_set ?_ GE315.out | refine below_set ?_ GE316.out) | exact HB.out)⟩
   ·
    rw [if_neg c41] at H
    have c41b0 : (a1 == 3) = false := beq_eq_false_iff_ne.mpr c41
    have c41b1 : (a1 != 3) = true := bne_iff_ne.mpr c41
    by_cases c59 : a1 = 4
    ·
     rw [if_pos c59] at H
     have c59b0 : (a1 == 4) = true := beq_iff_eq.mpr c59
     have c59b1 : (a1 != 4) = false := bne_eq_false_iff_eq.mpr c59
     clear c59
     replace H := Option.bind_eq_some_iff.mp H
     obtain ⟨t319, A600, H⟩ := H
     replace H : (if t319 = true then (some true) else ((horariumref15_inside.f ((a4_1) % 4294967296) ((a3_1) % 4294967296)).bind fun t320 => (some t320))) = some r := H
     have A60 := Aside0.mk A600
     clear A600
     by_cases c61 : t319 = true
     ·
      subst c61
      have H1 : (some true) = some r := by rw [if_pos rfl] at H; exact H
      clear H
      have H := H1
      clear H1
      obtain rfl := Option.some.inj H
      go_wp2_with (first | ((with_reducible refine gate_callee (f := 46) rfl ?_); refine goesL_ (some 63) rfl rfl Try.func46 (by kernel_rfl) rfl #[.int .u32 ((a3_1) % 4294967296), .int .u32 ((a4_1) % 4294967296)] rfl (by (try simp only [List.map_toArray, List.map_cons, List.map_nil]); first | done | rfl | (simp only [List.length_drop, List.length_take]; rfl)) ?_; (with_reducible refine (horariumref15_inside.calls ((a3_1) % 4294967296) ((a4_1) % 4294967296) true _ A60.out).mono ?_); rintro e w' ⟨rfl, ⟨nd, rfl⟩⟩; refine ⟨_, rfl, ?_⟩))
      go_ret
      exact ⟨by first | rfl | (simp [errW_none, errW_some] <;> rfl) | (simp [*, errW_none, errW_some] <;> rfl), by repeat (first | (with_reducible first | exact HB.out | apply below_alloc | apply pw_below_drewN | apply below_drew1 | refine below_set ?_ GE314.out | refine below_set ?_ GE315.out | refine below_set ?_ GE316.out) | exact HB.out)⟩
     ·
      replace c61 := Bool.eq_false_iff.mpr c61
      subst c61
      have H1 : ((horariumref15_inside.f ((a4_1) % 4294967296) ((a3_1) % 4294967296)).bind fun t320 => (some t320)) = some r := by rw [if_neg (show ¬ (false = true) by decide)] at H; exact H
      clear H
      have H := H1
      clear H1
      replace H := Option.bind_eq_some_iff.mp H
      obtain ⟨t320, A700, H⟩ := H
      replace H : (some t320) = some r := H
      have A70 := Aside0.mk A700
      clear A700
      obtain rfl := Option.some.inj H
      go_wp2_with (first | ((with_reducible refine gate_callee (f := 46) rfl ?_); refine goesL_ (some 63) rfl rfl Try.func46 (by kernel_rfl) rfl #[.int .u32 ((a3_1) % 4294967296), .int .u32 ((a4_1) % 4294967296)] rfl (by (try simp only [List.map_toArray, List.map_cons, List.map_nil]); first | done | rfl | (simp only [List.length_drop, List.length_take]; rfl)) ?_; (with_reducible refine (horariumref15_inside.calls ((a3_1) % 4294967296) ((a4_1) % 4294967296) false _ A60.out).mono ?_); rintro e w' ⟨rfl, ⟨nd, rfl⟩⟩; refine ⟨_, rfl, ?_⟩) | (go_at_call 46; (with_reducible refine (horariumref15_inside.calls ((a4_1) % 4294967296) ((a3_1) % 4294967296) t320 _ A70.out).mono ?_); rintro e w' ⟨rfl, ⟨nd, rfl⟩⟩))
      go_ret
      exact ⟨by first | rfl | (simp [errW_none, errW_some] <;> rfl) | (simp [*, errW_none, errW_some] <;> rfl), by repeat (first | (with_reducible first | exact HB.out | apply below_alloc | apply pw_below_drewN | apply below_drew1 | refine below_set ?_ GE314.out | refine below_set ?_ GE315.out | refine below_set ?_ GE316.out) | exact HB.out)⟩
    ·
     rw [if_neg c59] at H
     have c59b0 : (a1 == 4) = false := beq_eq_false_iff_ne.mpr c59
     have c59b1 : (a1 != 4) = true := bne_iff_ne.mpr c59
     by_cases c79 : a1 = 5
     ·
      rw [if_pos c79] at H
      have c79b0 : (a1 == 5) = true := beq_iff_eq.mpr c79
      have c79b1 : (a1 != 5) = false := bne_eq_false_iff_eq.mpr c79
      clear c79
      obtain rfl := Option.some.inj H
      go_wp2_with (fail)
      go_ret
      exact ⟨by first | rfl | (simp [errW_none, errW_some] <;> rfl) | (simp [*, errW_none, errW_some] <;> rfl), by repeat (first | (with_reducible first | exact HB.out | apply below_alloc | apply pw_below_drewN | apply below_drew1 | refine below_set ?_ GE314.out | refine below_set ?_ GE315.out | refine below_set ?_ GE316.out) | exact HB.out)⟩
     ·
      rw [if_neg c79] at H
      have c79b0 : (a1 == 5) = false := beq_eq_false_iff_ne.mpr c79
      have c79b1 : (a1 != 5) = true := bne_iff_ne.mpr c79
      by_cases c88 : a1 = 6
      ·
       rw [if_pos c88] at H
       have c88b0 : (a1 == 6) = true := beq_iff_eq.mpr c88
       have c88b1 : (a1 != 6) = false := bne_eq_false_iff_eq.mpr c88
       clear c88
       replace H := Option.bind_eq_some_iff.mp H
       obtain ⟨t321, A890, H⟩ := H
       replace H : (if t321 = true then (some true) else ((horariumref15_inside.f a4_0 a3_0).bind fun t322 => (some t322))) = some r := H
       have A89 := Aside0.mk A890
       clear A890
       by_cases c90 : t321 = true
       ·
        subst c90
        have H1 : (some true) = some r := by rw [if_pos rfl] at H; exact H
        clear H
        have H := H1
        clear H1
        obtain rfl := Option.some.inj H
        go_wp2_with (first | ((with_reducible refine gate_callee (f := 46) rfl ?_); refine goesL_ (some 87) rfl rfl Try.func46 (by kernel_rfl) rfl #[.int .u32 a3_0, .int .u32 a4_0] rfl (by (try simp only [List.map_toArray, List.map_cons, List.map_nil]); first | done | rfl | (simp only [List.length_drop, List.length_take]; rfl)) ?_; (with_reducible refine (horariumref15_inside.calls a3_0 a4_0 true _ A89.out).mono ?_); rintro e w' ⟨rfl, ⟨nd, rfl⟩⟩; refine ⟨_, rfl, ?_⟩))
        go_ret
        exact ⟨by first | rfl | (simp [errW_none, errW_some] <;> rfl) | (simp [*, errW_none, errW_some] <;> rfl), by repeat (first | (with_reducible first | exact HB.out | apply below_alloc | apply pw_below_drewN | apply below_drew1 | refine below_set ?_ GE314.out | refine below_set ?_ GE315.out | refine below_set ?_ GE316.out) | exact HB.out)⟩
       ·
        replace c90 := Bool.eq_false_iff.mpr c90
        subst c90
        have H1 : ((horariumref15_inside.f a4_0 a3_0).bind fun t322 => (some t322)) = some r := by rw [if_neg (show ¬ (false = true) by decide)] at H; exact H
        clear H
        have H := H1
        clear H1
        replace H := Option.bind_eq_some_iff.mp H
        obtain ⟨t322, A990, H⟩ := H
        replace H : (some t322) = some r := H
        have A99 := Aside0.mk A990
        clear A990
        obtain rfl := Option.some.inj H
        go_wp2_with (first | ((with_reducible refine gate_callee (f := 46) rfl ?_); refine goesL_ (some 87) rfl rfl Try.func46 (by kernel_rfl) rfl #[.int .u32 a3_0, .int .u32 a4_0] rfl (by (try simp only [List.map_toArray, List.map_cons, List.map_nil]); first | done | rfl | (simp only [List.length_drop, List.length_take]; rfl)) ?_; (with_reducible refine (horariumref15_inside.calls a3_0 a4_0 false _ A89.out).mono ?_); rintro e w' ⟨rfl, ⟨nd, rfl⟩⟩; refine ⟨_, rfl, ?_⟩) | (go_at_call 46; (with_reducible refine (horariumref15_inside.calls a4_0 a3_0 t322 _ A99.out).mono ?_); rintro e w' ⟨rfl, ⟨nd, rfl⟩⟩))
        go_ret
        exact ⟨by first | rfl | (simp [errW_none, errW_some] <;> rfl) | (simp [*, errW_none, errW_some] <;> rfl), by repeat (first | (with_reducible first | exact HB.out | apply below_alloc | apply pw_below_drewN | apply below_drew1 | refine below_set ?_ GE314.out | refine below_set ?_ GE315.out | refine below_set ?_ GE316.out) | exact HB.out)⟩
      ·
       rw [if_neg c88] at H
       have c88b0 : (a1 == 6) = false := beq_eq_false_iff_ne.mpr c88
       have c88b1 : (a1 != 6) = true := bne_iff_ne.mpr c88
       by_cases c108 : a1 = 7
       ·
        rw [if_pos c108] at H
        have c108b0 : (a1 == 7) = true := beq_iff_eq.mpr c108
        have c108b1 : (a1 != 7) = false := bne_eq_false_iff_eq.mpr c108
        clear c108
        obtain rfl := Option.some.inj H
        go_wp2_with (fail)
        go_ret
        exact ⟨by first | rfl | (simp [errW_none, errW_some] <;> rfl) | (simp [*, errW_none, errW_some] <;> rfl), by repeat (first | (with_reducible first | exact HB.out | apply below_alloc | apply pw_below_drewN | apply below_drew1 | refine below_set ?_ GE314.out | refine below_set ?_ GE315.out | refine below_set ?_ GE316.out) | exact HB.out)⟩
       ·
        rw [if_neg c108] at H
        have c108b0 : (a1 == 7) = false := beq_eq_false_iff_ne.mpr c108
        have c108b1 : (a1 != 7) = true := bne_iff_ne.mpr c108
        by_cases c117 : a1 = 8
        ·
         rw [if_pos c117] at H
         have c117b0 : (a1 == 8) = true := beq_iff_eq.mpr c117
         have c117b1 : (a1 != 8) = false := bne_eq_false_iff_eq.mpr c117
         clear c117
         replace H := Option.bind_eq_some_iff.mp H
         obtain ⟨t323, A1180, H⟩ := H
         replace H : (some t323) = some r := H
         have A118 := Aside0.mk A1180
         clear A1180
         obtain rfl := Option.some.inj H
         go_wp2_with (first | ((with_reducible refine gate_callee (f := 47) rfl ?_); refine goesL_ (some 107) rfl rfl Try.func47 (by kernel_rfl) rfl #[.agg #[.int .u32 a3_0, .int .u8 a3_1, .int .i64 a3_2, .int .i64 a3_3], .agg #[.int .u32 a4_0, .int .u8 a4_1, .int .i64 a4_2, .int .i64 a4_3]] rfl (by (try simp only [List.map_toArray, List.map_cons, List.map_nil]); first | done | rfl | (simp only [List.length_drop, List.length_take]; rfl)) ?_; (with_reducible refine (horariumref09_Meet.calls k a3_0 a3_1 a3_2 a3_3 a4_0 a4_1 a4_2 a4_3 t323 _ A118.out).mono ?_); rintro e w127 ⟨rfl, hb⟩; refine ⟨_, rfl, ?_⟩; have n0_ := Aside0.mk (blk_below (g := gb314) (o := .cells #[.int .i64 a0_0, .int .i64 a0_1, .int .i64 a0_2] 23 (0, 0)) (by (with_reducible repeat (first | refine blk_drewN ?_ _ | refine blk_drew ?_ | refine blk_alloc ?_ _)); exact BK314.out) hb); have n1_ := Aside0.mk (blk_below (g := gb315) (o := .cells #[.int .u32 a3_0, .int .u8 a3_1, .int .i64 a3_2, .int .i64 a3_3] 26 (0, 0)) (by (with_reducible repeat (first | refine blk_drewN ?_ _ | refine blk_drew ?_ | refine blk_alloc ?_ _)); exact BK315.out) hb); have n2_ := Aside0.mk (blk_below (g := gb316) (o := .cells #[.int .u32 a4_0, .int .u8 a4_1, .int .i64 a4_2, .int .i64 a4_3] 26 (0, 0)) (by (with_reducible repeat (first | refine blk_drewN ?_ _ | refine blk_drew ?_ | refine blk_alloc ?_ _)); exact BK316.out) hb); have n3_ := Aside0.mk (below_step (by repeat (first | (with_reducible first | exact HB.out | apply below_alloc | apply pw_below_drewN | apply below_drew1 | refine below_set ?_ GE314.out | refine below_set ?_ GE315.out | refine below_set ?_ GE316.out) | exact HB.out)) hb); clear BK314; clear BK315; clear BK316; clear HB; have BK314 := n0_; have BK315 := n1_; have BK316 := n2_; have HB := n3_; clear n0_ n1_ n2_ n3_; (try clear hb); (try clear hb2); (try clear hk); (try clear hi)))
         go_ret
         exact ⟨by first | rfl | (simp [errW_none, errW_some] <;> rfl) | (simp [*, errW_none, errW_some] <;> rfl), by repeat (first | (with_reducible first | exact HB.out | apply below_alloc | apply pw_below_drewN | apply below_drew1 | refine below_set ?_ GE314.out | refine below_set ?_ GE315.out | refine below_set ?_ GE316.out) | exact HB.out)⟩
        ·
         rw [if_neg c117] at H
         have c117b0 : (a1 == 8) = false := beq_eq_false_iff_ne.mpr c117
         have c117b1 : (a1 != 8) = true := bne_iff_ne.mpr c117
         by_cases c128 : a1 = 9
         ·
          rw [if_pos c128] at H
          have c128b0 : (a1 == 9) = true := beq_iff_eq.mpr c128
          have c128b1 : (a1 != 9) = false := bne_eq_false_iff_eq.mpr c128
          clear c128
          replace H := Option.bind_eq_some_iff.mp H
          obtain ⟨t324, A1290, H⟩ := H
          replace H : (some (!t324)) = some r := H
          have A129 := Aside0.mk A1290
          clear A1290
          obtain rfl := Option.some.inj H
          go_wp2_with (first | ((with_reducible refine gate_callee (f := 47) rfl ?_); refine goesL_ (some 112) rfl rfl Try.func47 (by kernel_rfl) rfl #[.agg #[.int .u32 a3_0, .int .u8 a3_1, .int .i64 a3_2, .int .i64 a3_3], .agg #[.int .u32 a4_0, .int .u8 a4_1, .int .i64 a4_2, .int .i64 a4_3]] rfl (by (try simp only [List.map_toArray, List.map_cons, List.map_nil]); first | done | rfl | (simp only [List.length_drop, List.length_take]; rfl)) ?_; (with_reducible refine (horariumref09_Meet.calls k a3_0 a3_1 a3_2 a3_3 a4_0 a4_1 a4_2 a4_3 t324 _ A129.out).mono ?_); rintro e w138 ⟨rfl, hb⟩; refine ⟨_, rfl, ?_⟩; have n0_ := Aside0.mk (blk_below (g := gb314) (o := .cells #[.int .i64 a0_0, .int .i64 a0_1, .int .i64 a0_2] 23 (0, 0)) (by (with_reducible repeat (first | refine blk_drewN ?_ _ | refine blk_drew ?_ | refine blk_alloc ?_ _)); exact BK314.out) hb); have n1_ := Aside0.mk (blk_below (g := gb315) (o := .cells #[.int .u32 a3_0, .int .u8 a3_1, .int .i64 a3_2, .int .i64 a3_3] 26 (0, 0)) (by (with_reducible repeat (first | refine blk_drewN ?_ _ | refine blk_drew ?_ | refine blk_alloc ?_ _)); exact BK315.out) hb); have n2_ := Aside0.mk (blk_below (g := gb316) (o := .cells #[.int .u32 a4_0, .int .u8 a4_1, .int .i64 a4_2, .int .i64 a4_3] 26 (0, 0)) (by (with_reducible repeat (first | refine blk_drewN ?_ _ | refine blk_drew ?_ | refine blk_alloc ?_ _)); exact BK316.out) hb); have n3_ := Aside0.mk (below_step (by repeat (first | (with_reducible first | exact HB.out | apply below_alloc | apply pw_below_drewN | apply below_drew1 | refine below_set ?_ GE314.out | refine below_set ?_ GE315.out | refine below_set ?_ GE316.out) | exact HB.out)) hb); clear BK314; clear BK315; clear BK316; clear HB; have BK314 := n0_; have BK315 := n1_; have BK316 := n2_; have HB := n3_; clear n0_ n1_ n2_ n3_; (try clear hb); (try clear hb2); (try clear hk); (try clear hi)))
          go_ret
          exact ⟨by first | rfl | (simp [errW_none, errW_some] <;> rfl) | (simp [*, errW_none, errW_some] <;> rfl), by repeat (first | (with_reducible first | exact HB.out | apply below_alloc | apply pw_below_drewN | apply below_drew1 | refine below_set ?_ GE314.out | refine below_set ?_ GE315.out | refine below_set ?_ GE316.out) | exact HB.out)⟩
         ·
          rw [if_neg c128] at H
          have c128b0 : (a1 == 9) = false := beq_eq_false_iff_ne.mpr c128
          have c128b1 : (a1 != 9) = true := bne_iff_ne.mpr c128
          by_cases c139 : a1 = 12
          ·
           rw [if_pos c139] at H
           have c139b0 : (a1 == 12) = true := beq_iff_eq.mpr c139
           have c139b1 : (a1 != 12) = false := bne_eq_false_iff_eq.mpr c139
           clear c139
           replace H := Option.bind_eq_some_iff.mp H
           obtain ⟨⟨t325, t326⟩, A1400, H⟩ := H
           replace H : ((horariumref09_First.f k a0_0 a0_1 a0_2 a4_0 a4_1 a4_2 a4_3).bind fun bt327 => (some (decide (t326 < bt327.1)))) = some r := H
           have A140 := Aside0.mk A1400
           clear A1400
           replace H := Option.bind_eq_some_iff.mp H
           obtain ⟨⟨t327, t328⟩, A1410, H⟩ := H
           replace H : (some (decide (t326 < t327))) = some r := H
           have A141 := Aside0.mk A1410
           clear A1410
           obtain rfl := Option.some.inj H
           go_wp2_with (first | ((with_reducible refine gate_callee (f := 48) rfl ?_); refine goesL_ (some 119) rfl rfl Try.func48 (by kernel_rfl) rfl #[.agg #[.int .i64 a0_0, .int .i64 a0_1, .int .i64 a0_2], .agg #[.int .u32 a3_0, .int .u8 a3_1, .int .i64 a3_2, .int .i64 a3_3]] rfl (by (try simp only [List.map_toArray, List.map_cons, List.map_nil]); first | done | rfl | (simp only [List.length_drop, List.length_take]; rfl)) ?_; (with_reducible refine (horariumref09_First.calls k a0_0 a0_1 a0_2 a3_0 a3_1 a3_2 a3_3 t325 t326 _ A140.out).mono ?_); rintro e w150 ⟨rfl, hb⟩; refine ⟨_, rfl, ?_⟩; have n0_ := Aside0.mk (blk_below (g := gb314) (o := .cells #[.int .i64 a0_0, .int .i64 a0_1, .int .i64 a0_2] 23 (0, 0)) (by (with_reducible repeat (first | refine blk_drewN ?_ _ | refine blk_drew ?_ | refine blk_alloc ?_ _)); exact BK314.out) hb); have n1_ := Aside0.mk (blk_below (g := gb315) (o := .cells #[.int .u32 a3_0, .int .u8 a3_1, .int .i64 a3_2, .int .i64 a3_3] 26 (0, 0)) (by (with_reducible repeat (first | refine blk_drewN ?_ _ | refine blk_drew ?_ | refine blk_alloc ?_ _)); exact BK315.out) hb); have n2_ := Aside0.mk (blk_below (g := gb316) (o := .cells #[.int .u32 a4_0, .int .u8 a4_1, .int .i64 a4_2, .int .i64 a4_3] 26 (0, 0)) (by (with_reducible repeat (first | refine blk_drewN ?_ _ | refine blk_drew ?_ | refine blk_alloc ?_ _)); exact BK316.out) hb); have n3_ := Aside0.mk (below_step (by repeat (first | (with_reducible first | exact HB.out | apply below_alloc | apply pw_below_drewN | apply below_drew1 | refine below_set ?_ GE314.out | refine below_set ?_ GE315.out | refine below_set ?_ GE316.out) | exact HB.out)) hb); clear BK314; clear BK315; clear BK316; clear HB; have BK314 := n0_; have BK315 := n1_; have BK316 := n2_; have HB := n3_; clear n0_ n1_ n2_ n3_; (try clear hb); (try clear hb2); (try clear hk); (try clear hi); have hcz151_0 : w150.cell? ⟨gb314, 0, none⟩ = some (.int .i64 a0_0) := (blk_cell BK314.out 0).trans rfl; have hcz151_1 : w150.cell? ⟨gb314, 1, none⟩ = some (.int .i64 a0_1) := (blk_cell BK314.out 1).trans rfl; have hcz151_2 : w150.cell? ⟨gb314, 2, none⟩ = some (.int .i64 a0_2) := (blk_cell BK314.out 2).trans rfl; have hfz151_0 := blk_frozen BK314.out 0; have hfz151_1 := blk_frozen BK314.out 1; have hfz151_2 := blk_frozen BK314.out 2; have hcz152_0 : w150.cell? ⟨gb316, 0, none⟩ = some (.int .u32 a4_0) := (blk_cell BK316.out 0).trans rfl; have hcz152_1 : w150.cell? ⟨gb316, 1, none⟩ = some (.int .u8 a4_1) := (blk_cell BK316.out 1).trans rfl; have hcz152_2 : w150.cell? ⟨gb316, 2, none⟩ = some (.int .i64 a4_2) := (blk_cell BK316.out 2).trans rfl; have hcz152_3 : w150.cell? ⟨gb316, 3, none⟩ = some (.int .i64 a4_3) := (blk_cell BK316.out 3).trans rfl; have hfz152_0 := blk_frozen BK316.out 0; have hfz152_1 := blk_frozen BK316.out 1; have hfz152_2 := blk_frozen BK316.out 2; have hfz152_3 := blk_frozen BK316.out 3) | ((with_reducible refine gate_callee (f := 48) rfl ?_); refine goesL_ (some 125) rfl rfl Try.func48 (by kernel_rfl) rfl #[.agg #[.int .i64 a0_0, .int .i64 a0_1, .int .i64 a0_2], .agg #[.int .u32 a4_0, .int .u8 a4_1, .int .i64 a4_2, .int .i64 a4_3]] rfl (by (try simp only [List.map_toArray, List.map_cons, List.map_nil]); first | done | rfl | (simp only [List.length_drop, List.length_take]; rfl)) ?_; (with_reducible refine (horariumref09_First.calls k a0_0 a0_1 a0_2 a4_0 a4_1 a4_2 a4_3 t327 t328 _ A141.out).mono ?_); rintro e w153 ⟨rfl, hb⟩; refine ⟨_, rfl, ?_⟩; have n0_ := Aside0.mk (blk_below (g := gb314) (o := .cells #[.int .i64 a0_0, .int .i64 a0_1, .int .i64 a0_2] 23 (0, 0)) (by (with_reducible repeat (first | refine blk_drewN ?_ _ | refine blk_drew ?_ | refine blk_alloc ?_ _)); exact BK314.out) hb); have n1_ := Aside0.mk (blk_below (g := gb315) (o := .cells #[.int .u32 a3_0, .int .u8 a3_1, .int .i64 a3_2, .int .i64 a3_3] 26 (0, 0)) (by (with_reducible repeat (first | refine blk_drewN ?_ _ | refine blk_drew ?_ | refine blk_alloc ?_ _)); exact BK315.out) hb); have n2_ := Aside0.mk (blk_below (g := gb316) (o := .cells #[.int .u32 a4_0, .int .u8 a4_1, .int .i64 a4_2, .int .i64 a4_3] 26 (0, 0)) (by (with_reducible repeat (first | refine blk_drewN ?_ _ | refine blk_drew ?_ | refine blk_alloc ?_ _)); exact BK316.out) hb); have n3_ := Aside0.mk (below_step (by repeat (first | (with_reducible first | exact HB.out | apply below_alloc | apply pw_below_drewN | apply below_drew1 | refine below_set ?_ GE314.out | refine below_set ?_ GE315.out | refine below_set ?_ GE316.out) | exact HB.out)) hb); clear BK314; clear BK315; clear BK316; clear HB; have BK314 := n0_; have BK315 := n1_; have BK316 := n2_; have HB := n3_; clear n0_ n1_ n2_ n3_; (try clear hb); (try clear hb2); (try clear hk); (try clear hi)))
           go_ret
           exact ⟨by first | rfl | (simp [errW_none, errW_some] <;> rfl) | (simp [*, errW_none, errW_some] <;> rfl), by repeat (first | (with_reducible first | exact HB.out | apply below_alloc | apply pw_below_drewN | apply below_drew1 | refine below_set ?_ GE314.out | refine below_set ?_ GE315.out | refine below_set ?_ GE316.out) | exact HB.out)⟩
          ·
           rw [if_neg c139] at H
           have c139b0 : (a1 == 12) = false := beq_eq_false_iff_ne.mpr c139
           have c139b1 : (a1 != 12) = true := bne_iff_ne.mpr c139
           by_cases c154 : a1 = 13
           ·
            rw [if_pos c154] at H
            have c154b0 : (a1 == 13) = true := beq_iff_eq.mpr c154
            have c154b1 : (a1 != 13) = false := bne_eq_false_iff_eq.mpr c154
            clear c154
            replace H := Option.bind_eq_some_iff.mp H
            obtain ⟨t329, A1550, H⟩ := H
            replace H : (if t329 = true then (some (decide ((wrap64 ((mx (wrap64 (a3_2 + a3_3)) (wrap64 (a4_2 + a4_3))) - (mn a3_2 a4_2))) ≤ a2))) else (some true)) = some r := H
            have A155 := Aside0.mk A1550
            clear A1550
            by_cases c156 : t329 = true
            ·
             subst c156
             have H1 : (some (decide ((wrap64 ((mx (wrap64 (a3_2 + a3_3)) (wrap64 (a4_2 + a4_3))) - (mn a3_2 a4_2))) ≤ a2))) = some r := by rw [if_pos rfl] at H; exact H
             clear H
             have H := H1
             clear H1
             obtain ⟨ji157, hji157⟩ : ∃ j_ : Int, (mx (wrap64 (a3_2 + a3_3)) (wrap64 (a4_2 + a4_3))) = j_ := ⟨_, rfl⟩
             replace H : (some (decide ((wrap64 ((ji157) - (mn a3_2 a4_2))) ≤ a2))) = some r := by first | (rw [hji157] at H; exact H) | (simp only [hji157] at H ⊢; exact H)
             (try rw [hji157] at A155)
             have hji157_ : (if (wrap64 (a3_2 + a3_3)) < (wrap64 (a4_2 + a4_3)) then (wrap64 (a4_2 + a4_3)) else (wrap64 (a3_2 + a3_3))) = ji157 := hji157
             obtain ⟨ji158, hji158⟩ : ∃ j_ : Int, (mn a3_2 a4_2) = j_ := ⟨_, rfl⟩
             replace H : (some (decide ((wrap64 ((ji157) - (ji158))) ≤ a2))) = some r := by first | (rw [hji158] at H; exact H) | (simp only [hji158] at H ⊢; exact H)
             (try rw [hji158] at A155)
             have hji158_ : (if a4_2 < a3_2 then a4_2 else a3_2) = ji158 := hji158
             obtain rfl := Option.some.inj H
             go_wp2_with (first | ((with_reducible refine gate_callee (f := 49) rfl ?_); refine goesL_ (some 135) rfl rfl Try.func49 (by kernel_rfl) rfl #[.agg #[.int .u32 a3_0, .int .u8 a3_1, .int .i64 a3_2, .int .i64 a3_3], .agg #[.int .u32 a4_0, .int .u8 a4_1, .int .i64 a4_2, .int .i64 a4_3]] rfl (by (try simp only [List.map_toArray, List.map_cons, List.map_nil]); first | done | rfl | (simp only [List.length_drop, List.length_take]; rfl)) ?_; (with_reducible refine (horariumref09_SameDay.calls k a3_0 a3_1 a3_2 a3_3 a4_0 a4_1 a4_2 a4_3 true _ A155.out).mono ?_); rintro e w167 ⟨rfl, hb⟩; refine ⟨_, rfl, ?_⟩; have n0_ := Aside0.mk (blk_below (g := gb314) (o := .cells #[.int .i64 a0_0, .int .i64 a0_1, .int .i64 a0_2] 23 (0, 0)) (by (with_reducible repeat (first | refine blk_drewN ?_ _ | refine blk_drew ?_ | refine blk_alloc ?_ _)); exact BK314.out) hb); have n1_ := Aside0.mk (blk_below (g := gb315) (o := .cells #[.int .u32 a3_0, .int .u8 a3_1, .int .i64 a3_2, .int .i64 a3_3] 26 (0, 0)) (by (with_reducible repeat (first | refine blk_drewN ?_ _ | refine blk_drew ?_ | refine blk_alloc ?_ _)); exact BK315.out) hb); have n2_ := Aside0.mk (blk_below (g := gb316) (o := .cells #[.int .u32 a4_0, .int .u8 a4_1, .int .i64 a4_2, .int .i64 a4_3] 26 (0, 0)) (by (with_reducible repeat (first | refine blk_drewN ?_ _ | refine blk_drew ?_ | refine blk_alloc ?_ _)); exact BK316.out) hb); have n3_ := Aside0.mk (below_step (by repeat (first | (with_reducible first | exact HB.out | apply below_alloc | apply pw_below_drewN | apply below_drew1 | refine below_set ?_ GE314.out | refine below_set ?_ GE315.out | refine below_set ?_ GE316.out) | exact HB.out)) hb); clear BK314; clear BK315; clear BK316; clear HB; have BK314 := n0_; have BK315 := n1_; have BK316 := n2_; have HB := n3_; clear n0_ n1_ n2_ n3_; (try clear hb); (try clear hb2); (try clear hk); (try clear hi); have hcz168_0 : w167.cell? ⟨gb315, 0, none⟩ = some (.int .u32 a3_0) := (blk_cell BK315.out 0).trans rfl; have hcz168_1 : w167.cell? ⟨gb315, 1, none⟩ = some (.int .u8 a3_1) := (blk_cell BK315.out 1).trans rfl; have hcz168_2 : w167.cell? ⟨gb315, 2, none⟩ = some (.int .i64 a3_2) := (blk_cell BK315.out 2).trans rfl; have hcz168_3 : w167.cell? ⟨gb315, 3, none⟩ = some (.int .i64 a3_3) := (blk_cell BK315.out 3).trans rfl; have hfz168_0 := blk_frozen BK315.out 0; have hfz168_1 := blk_frozen BK315.out 1; have hfz168_2 := blk_frozen BK315.out 2; have hfz168_3 := blk_frozen BK315.out 3; have hcz169_0 : w167.cell? ⟨gb316, 0, none⟩ = some (.int .u32 a4_0) := (blk_cell BK316.out 0).trans rfl; have hcz169_1 : w167.cell? ⟨gb316, 1, none⟩ = some (.int .u8 a4_1) := (blk_cell BK316.out 1).trans rfl; have hcz169_2 : w167.cell? ⟨gb316, 2, none⟩ = some (.int .i64 a4_2) := (blk_cell BK316.out 2).trans rfl; have hcz169_3 : w167.cell? ⟨gb316, 3, none⟩ = some (.int .i64 a4_3) := (blk_cell BK316.out 3).trans rfl; have hfz169_0 := blk_frozen BK316.out 0; have hfz169_1 := blk_frozen BK316.out 1; have hfz169_2 := blk_frozen BK316.out 2; have hfz169_3 := blk_frozen BK316.out 3))
             go_ret
             exact ⟨by first | rfl | (simp [errW_none, errW_some] <;> rfl) | (simp only [← hji157, ← hji158]; first | rfl | (simp [errW_none, errW_some] <;> rfl)) | (simp [*, errW_none, errW_some] <;> rfl), by repeat (first | (with_reducible first | exact HB.out | apply below_alloc | apply pw_below_drewN | apply below_drew1 | refine below_set ?_ GE314.out | refine below_set ?_ GE315.out | refine below_set ?_ GE316.out) | exact HB.out)⟩
            ·
             replace c156 := Bool.eq_false_iff.mpr c156
             subst c156
             have H1 : (some true) = some r := by rw [if_neg (show ¬ (false = true) by decide)] at H; exact H
             clear H
             have H := H1
             clear H1
             obtain rfl := Option.some.inj H
             go_wp2_with (first | ((with_reducible refine gate_callee (f := 49) rfl ?_); refine goesL_ (some 135) rfl rfl Try.func49 (by kernel_rfl) rfl #[.agg #[.int .u32 a3_0, .int .u8 a3_1, .int .i64 a3_2, .int .i64 a3_3], .agg #[.int .u32 a4_0, .int .u8 a4_1, .int .i64 a4_2, .int .i64 a4_3]] rfl (by (try simp only [List.map_toArray, List.map_cons, List.map_nil]); first | done | rfl | (simp only [List.length_drop, List.length_take]; rfl)) ?_; (with_reducible refine (horariumref09_SameDay.calls k a3_0 a3_1 a3_2 a3_3 a4_0 a4_1 a4_2 a4_3 false _ A155.out).mono ?_); rintro e w178 ⟨rfl, hb⟩; refine ⟨_, rfl, ?_⟩; have n0_ := Aside0.mk (blk_below (g := gb314) (o := .cells #[.int .i64 a0_0, .int .i64 a0_1, .int .i64 a0_2] 23 (0, 0)) (by (with_reducible repeat (first | refine blk_drewN ?_ _ | refine blk_drew ?_ | refine blk_alloc ?_ _)); exact BK314.out) hb); have n1_ := Aside0.mk (blk_below (g := gb315) (o := .cells #[.int .u32 a3_0, .int .u8 a3_1, .int .i64 a3_2, .int .i64 a3_3] 26 (0, 0)) (by (with_reducible repeat (first | refine blk_drewN ?_ _ | refine blk_drew ?_ | refine blk_alloc ?_ _)); exact BK315.out) hb); have n2_ := Aside0.mk (blk_below (g := gb316) (o := .cells #[.int .u32 a4_0, .int .u8 a4_1, .int .i64 a4_2, .int .i64 a4_3] 26 (0, 0)) (by (with_reducible repeat (first | refine blk_drewN ?_ _ | refine blk_drew ?_ | refine blk_alloc ?_ _)); exact BK316.out) hb); have n3_ := Aside0.mk (below_step (by repeat (first | (with_reducible first | exact HB.out | apply below_alloc | apply pw_below_drewN | apply below_drew1 | refine below_set ?_ GE314.out | refine below_set ?_ GE315.out | refine below_set ?_ GE316.out) | exact HB.out)) hb); clear BK314; clear BK315; clear BK316; clear HB; have BK314 := n0_; have BK315 := n1_; have BK316 := n2_; have HB := n3_; clear n0_ n1_ n2_ n3_; (try clear hb); (try clear hb2); (try clear hk); (try clear hi)))
             go_ret
             exact ⟨by first | rfl | (simp [errW_none, errW_some] <;> rfl) | (simp [*, errW_none, errW_some] <;> rfl), by repeat (first | (with_reducible first | exact HB.out | apply below_alloc | apply pw_below_drewN | apply below_drew1 | refine below_set ?_ GE314.out | refine below_set ?_ GE315.out | refine below_set ?_ GE316.out) | exact HB.out)⟩
           ·
            rw [if_neg c154] at H
            have c154b0 : (a1 == 13) = false := beq_eq_false_iff_ne.mpr c154
            have c154b1 : (a1 != 13) = true := bne_iff_ne.mpr c154
            by_cases c179 : a1 = 14
            ·
             rw [if_pos c179] at H
             have c179b0 : (a1 == 14) = true := beq_iff_eq.mpr c179
             have c179b1 : (a1 != 14) = false := bne_eq_false_iff_eq.mpr c179
             clear c179
             replace H := Option.bind_eq_some_iff.mp H
             obtain ⟨t330, A1800, H⟩ := H
             replace H : (some t330) = some r := H
             have A180 := Aside0.mk A1800
             clear A1800
             obtain rfl := Option.some.inj H
             go_wp2_with (first | (go_at_call 50; (with_reducible refine (horariumref12_Reach.calls k a3_0 a3_1 a3_2 a3_3 a4_0 a4_1 a4_2 a4_3 a5 t330 _ A180.out).mono ?_); rintro e w189 ⟨rfl, hb⟩; have n0_ := Aside0.mk (blk_below (g := gb314) (o := .cells #[.int .i64 a0_0, .int .i64 a0_1, .int .i64 a0_2] 23 (0, 0)) (by (with_reducible repeat (first | refine blk_drewN ?_ _ | refine blk_drew ?_ | refine blk_alloc ?_ _)); exact BK314.out) hb); have n1_ := Aside0.mk (blk_below (g := gb315) (o := .cells #[.int .u32 a3_0, .int .u8 a3_1, .int .i64 a3_2, .int .i64 a3_3] 26 (0, 0)) (by (with_reducible repeat (first | refine blk_drewN ?_ _ | refine blk_drew ?_ | refine blk_alloc ?_ _)); exact BK315.out) hb); have n2_ := Aside0.mk (blk_below (g := gb316) (o := .cells #[.int .u32 a4_0, .int .u8 a4_1, .int .i64 a4_2, .int .i64 a4_3] 26 (0, 0)) (by (with_reducible repeat (first | refine blk_drewN ?_ _ | refine blk_drew ?_ | refine blk_alloc ?_ _)); exact BK316.out) hb); have n3_ := Aside0.mk (below_step (by repeat (first | (with_reducible first | exact HB.out | apply below_alloc | apply pw_below_drewN | apply below_drew1 | refine below_set ?_ GE314.out | refine below_set ?_ GE315.out | refine below_set ?_ GE316.out) | exact HB.out)) hb); clear BK314; clear BK315; clear BK316; clear HB; have BK314 := n0_; have BK315 := n1_; have BK316 := n2_; have HB := n3_; clear n0_ n1_ n2_ n3_; (try clear hb); (try clear hb2); (try clear hk); (try clear hi)))
             go_ret
             exact ⟨by first | rfl | (simp [errW_none, errW_some] <;> rfl) | (simp [*, errW_none, errW_some] <;> rfl), by repeat (first | (with_reducible first | exact HB.out | apply below_alloc | apply pw_below_drewN | apply below_drew1 | refine below_set ?_ GE314.out | refine below_set ?_ GE315.out | refine below_set ?_ GE316.out) | exact HB.out)⟩
            ·
             rw [if_neg c179] at H
             have c179b0 : (a1 == 14) = false := beq_eq_false_iff_ne.mpr c179
             have c179b1 : (a1 != 14) = true := bne_iff_ne.mpr c179
             obtain rfl := Option.some.inj H
             go_wp2_with (fail)
             go_ret
             exact ⟨by first | rfl | (simp [errW_none, errW_some] <;> rfl) | (simp [*, errW_none, errW_some] <;> rfl), by repeat (first | (with_reducible first | exact HB.out | apply below_alloc | apply pw_below_drewN | apply below_drew1 | refine below_set ?_ GE314.out | refine below_set ?_ GE315.out | refine below_set ?_ GE316.out) | exact HB.out)⟩

end Go.Proofs.Ytddheiloodfkdaa.Q
