-- Written by a program of this claim's prover; Lean checks it.
import Derived.Test.YtddheiloodfkdaaQ0
import Derived.Test.YtddheiloodfkdaaQ14
import Derived.Test.YtddheiloodfkdaaQ16
namespace Go.Proofs.Ytddheiloodfkdaa.Q
open Go.RowKit Go.Proofs.YtddheiloodfkdaaW.PrintWords Go.Proofs.YtddheiloodfkdaaW.PrintLast Go.Proofs.YtddheiloodfkdaaW.PrintMore
attribute [local go_sem] max2_int min2_int max_two min_two max_three min_three max_four min_four   -- for this text's walks alone
set_option linter.unusedVariables false
set_option linter.unusedSimpArgs false

/-! ### horariumref09_On: function 60 -/
def horariumref09_On.j0 : Nat → Int → Int → Int → Bool → Int → Int → Int → Int → Option (Bool)
  | 0, _, _, _, _, _, _, _, _ => none
  | k + 1, x1, x2, x3, x27, x283000, x283001, x283002, x283003 => if x27 = true then (some false) else ((horariumref09_bit.f x283000 x1).bind fun t284 => (if t284 = true then ((horariumref09_bit.f ((x283001) % 4294967296) x2).bind fun t285 => (if t285 = true then (if x3 ≥ x283002 then (some (decide (x3 < (wrap64 (x283002 + x283003))))) else (some false)) else (some false))) else (some false)))
def horariumref09_On.f (k : Nat) (a0_0 : Int) (a0_1 : Int) (a0_2 : Int) (a0_3 : Int) (a1 : Int) (a2 : Int) (a3 : Int) : Option (Bool) := (horariumref09_Tame.f a0_0 a0_1 a0_2 a0_3).bind fun t283 => (if t283 = true then (if a1 < 0 then (horariumref09_On.j0 k a1 a2 a3 true a0_0 a0_1 a0_2 a0_3) else (if a1 > 31 then (horariumref09_On.j0 k a1 a2 a3 true a0_0 a0_1 a0_2 a0_3) else (if a2 < 0 then (horariumref09_On.j0 k a1 a2 a3 true a0_0 a0_1 a0_2 a0_3) else (horariumref09_On.j0 k a1 a2 a3 (decide (a2 > 7)) a0_0 a0_1 a0_2 a0_3)))) else (horariumref09_On.j0 k a1 a2 a3 true a0_0 a0_1 a0_2 a0_3))
theorem horariumref09_On.mono_l : ∀ k, (∀ y0 y1 y2 y3 y4 y5 y6 y7, LeO (horariumref09_On.j0 k y0 y1 y2 y3 y4 y5 y6 y7) (horariumref09_On.j0 (k + 1) y0 y1 y2 y3 y4 y5 y6 y7))
  | 0 => fun _ _ _ _ _ _ _ _ r h => by simp [horariumref09_On.j0] at h
  | k + 1 => by
    have ih0 := horariumref09_On.mono_l k
    · intro y0 y1 y2 y3 y4 y5 y6 y7
      unfold horariumref09_On.j0
      repeat' first
      | (with_reducible exact ih0 _ _ _ _ _ _ _ _)
      | (with_reducible exact LeO.refl _)
      | (with_reducible exact LeO.none _)
      | (with_reducible refine LeO.ite ?_ ?_)
      | (with_reducible refine LeO.bind ?_ (fun _ => ?_))
      | exact ih0 _ _ _ _ _ _ _ _
      | exact LeO.none _
      | refine LeO.ite ?_ ?_
      | refine LeO.bind ?_ (fun _ => ?_)
theorem horariumref09_On.mono : ∀ a0 a1 a2 a3 a4 a5 a6 k, LeO (horariumref09_On.f k a0 a1 a2 a3 a4 a5 a6) (horariumref09_On.f (k + 1) a0 a1 a2 a3 a4 a5 a6) := by
  intro a0 a1 a2 a3 a4 a5 a6 k
  have ih0 := horariumref09_On.mono_l k
  unfold horariumref09_On.f
  repeat' first
      | (with_reducible exact ih0 _ _ _ _ _ _ _ _)
      | (with_reducible exact LeO.refl _)
      | (with_reducible exact LeO.none _)
      | (with_reducible refine LeO.ite ?_ ?_)
      | (with_reducible refine LeO.bind ?_ (fun _ => ?_))
      | exact ih0 _ _ _ _ _ _ _ _
      | exact LeO.none _
      | refine LeO.ite ?_ ?_
      | refine LeO.bind ?_ (fun _ => ?_)
set_option maxHeartbeats 8000000 in
set_option maxRecDepth 100000 in
theorem horariumref09_On.calls (k : Nat) (a0_0 : Int) (a0_1 : Int) (a0_2 : Int) (a0_3 : Int) (a1 : Int) (a2 : Int) (a3 : Int) (r : Bool) (w : World) (h : horariumref09_On.f k a0_0 a0_1 a0_2 a0_3 a1 a2 a3 = some r) :
  Calls Try.prog 60 #[.agg #[.int .u32 a0_0, .int .u8 a0_1, .int .i64 a0_2, .int .i64 a0_3], .int .i64 a1, .int .i64 a2, .int .i64 a3] w fun e w' => e = .returned (.bool r) ∧ Below w.heap.size w w' := by
 have hu26 := Try.underlying26
 have HB := Aside0.mk (Below.refl w.heap.size w)
 have H : ((horariumref09_Tame.f a0_0 a0_1 a0_2 a0_3).bind fun t283 => (if t283 = true then (if a1 < 0 then (horariumref09_On.j0 k a1 a2 a3 true a0_0 a0_1 a0_2 a0_3) else (if a1 > 31 then (horariumref09_On.j0 k a1 a2 a3 true a0_0 a0_1 a0_2 a0_3) else (if a2 < 0 then (horariumref09_On.j0 k a1 a2 a3 true a0_0 a0_1 a0_2 a0_3) else (horariumref09_On.j0 k a1 a2 a3 (decide (a2 > 7)) a0_0 a0_1 a0_2 a0_3)))) else (horariumref09_On.j0 k a1 a2 a3 true a0_0 a0_1 a0_2 a0_3))) = some r := h
 clear h
 have HC5 := Aside0.mk H
 clear H
 go_enter Try.func60, Try.ntmps60
 go_upto_region 1 with (first | ((with_reducible refine gate_dst (N := 4) rfl ?_); refine box_event ?hg (N := 4) ?hd (cs := #[.int .u32 a0_0, .int .u8 a0_1, .int .i64 a0_2, .int .i64 a0_3]) (t := 26) ?hr ?_; (case hd => rfl); (case hg => rfl); (case hr => first | (go_simp; done) | (go_simp; rfl)); intro gb282 hg w6 hbox hb; have n0_ := Aside0.mk (below_step (by repeat (first | (with_reducible first | exact HB.out | apply below_alloc | apply pw_below_drewN | apply below_drew1) | exact HB.out)) hb); have n1_ := Aside0.mk (hbox); have n2_ := Aside0.mk ((by rw [hg]; exact (below_size (by repeat (first | (with_reducible first | exact HB.out | apply below_alloc | apply pw_below_drewN | apply below_drew1) | exact HB.out))) : w.heap.size ≤ gb282)); have n3_ := Aside0.mk ((by rw [hg]; exact (below_size (by repeat (first | (with_reducible first | exact HB.out | apply below_alloc | apply pw_below_drewN | apply below_drew1) | exact HB.out))) : w.heap.size ≤ gb282)); clear HB; have HB := n0_; have BK282 := n1_; have GW282 := n2_; have GE282 := n3_; clear n0_ n1_ n2_ n3_; clear hb hbox hg))
 (try simp only [Act.put, List.setIfInBounds_toArray, List.set_cons_zero, List.set_cons_succ])
 go_cut [27] (fun v27 wc => ∃ (kq : Nat) (x27_4 : Bool), v27 = .bool x27_4 ∧ Aside0 (horariumref09_On.j0 kq a1 a2 a3 x27_4 a0_0 a0_1 a0_2 a0_3 = some r) ∧ Aside0 (kq ≤ k) ∧ Aside0 (wc.heap[gb282]? = some (.cells #[.int .u32 a0_0, .int .u8 a0_1, .int .i64 a0_2, .int .i64 a0_3] 26 (0, 0))) ∧ Aside0 (Below w.heap.size w wc))
 case first =>
  have H := HC5.out
  clear HC5
  replace H := Option.bind_eq_some_iff.mp H
  obtain ⟨t283, A70, H⟩ := H
  replace H : (if t283 = true then (if a1 < 0 then (horariumref09_On.j0 k a1 a2 a3 true a0_0 a0_1 a0_2 a0_3) else (if a1 > 31 then (horariumref09_On.j0 k a1 a2 a3 true a0_0 a0_1 a0_2 a0_3) else (if a2 < 0 then (horariumref09_On.j0 k a1 a2 a3 true a0_0 a0_1 a0_2 a0_3) else (horariumref09_On.j0 k a1 a2 a3 (decide (a2 > 7)) a0_0 a0_1 a0_2 a0_3)))) else (horariumref09_On.j0 k a1 a2 a3 true a0_0 a0_1 a0_2 a0_3)) = some r := H
  have A7 := Aside0.mk A70
  clear A70
  by_cases c8 : t283 = true
  ·
   subst c8
   have H1 : (if a1 < 0 then (horariumref09_On.j0 k a1 a2 a3 true a0_0 a0_1 a0_2 a0_3) else (if a1 > 31 then (horariumref09_On.j0 k a1 a2 a3 true a0_0 a0_1 a0_2 a0_3) else (if a2 < 0 then (horariumref09_On.j0 k a1 a2 a3 true a0_0 a0_1 a0_2 a0_3) else (horariumref09_On.j0 k a1 a2 a3 (decide (a2 > 7)) a0_0 a0_1 a0_2 a0_3)))) = some r := by rw [if_pos rfl] at H; exact H
   clear H
   have H := H1
   clear H1
   by_cases c9 : a1 < 0
   ·
    rw [if_pos c9] at H
    have c9b0 : decide (a1 < 0) = true := decide_eq_true c9
    clear c9
    (first | rw [c9b0] | (simp only [i64_w, i32_w]; rw [c9b0]) | skip)
    have H' := Aside0.mk H
    clear H
    have hcz10_0 : w6.cell? ⟨gb282, 0, none⟩ = some (.int .u32 a0_0) := (blk_cell BK282.out 0).trans rfl
    have hcz10_1 : w6.cell? ⟨gb282, 1, none⟩ = some (.int .u8 a0_1) := (blk_cell BK282.out 1).trans rfl
    have hcz10_2 : w6.cell? ⟨gb282, 2, none⟩ = some (.int .i64 a0_2) := (blk_cell BK282.out 2).trans rfl
    have hcz10_3 : w6.cell? ⟨gb282, 3, none⟩ = some (.int .i64 a0_3) := (blk_cell BK282.out 3).trans rfl
    have hfz10_0 := blk_frozen BK282.out 0
    have hfz10_1 := blk_frozen BK282.out 1
    have hfz10_2 := blk_frozen BK282.out 2
    have hfz10_3 := blk_frozen BK282.out 3
    go_wp2_with (first | ((with_reducible refine gate_callee (f := 56) rfl ?_); refine goesL_ (some 10) rfl rfl Try.func56 (by kernel_rfl) rfl #[.agg #[.int .u32 a0_0, .int .u8 a0_1, .int .i64 a0_2, .int .i64 a0_3]] rfl (by (try simp only [List.map_toArray, List.map_cons, List.map_nil]); first | done | rfl | (simp only [List.length_drop, List.length_take]; rfl)) ?_; (with_reducible refine (horariumref09_Tame.calls a0_0 a0_1 a0_2 a0_3 true _ A7.out).mono ?_); rintro e w11 ⟨rfl, hb⟩; refine ⟨_, rfl, ?_⟩; have n0_ := Aside0.mk (blk_below (g := gb282) (o := .cells #[.int .u32 a0_0, .int .u8 a0_1, .int .i64 a0_2, .int .i64 a0_3] 26 (0, 0)) (by (with_reducible repeat (first | refine blk_drewN ?_ _ | refine blk_drew ?_ | refine blk_alloc ?_ _)); exact BK282.out) hb); have n1_ := Aside0.mk (below_step (by repeat (first | (with_reducible first | exact HB.out | apply below_alloc | apply pw_below_drewN | apply below_drew1 | refine below_set ?_ GE282.out) | exact HB.out)) hb); clear BK282; clear HB; have BK282 := n0_; have HB := n1_; clear n0_ n1_; (try clear hb); (try clear hb2); (try clear hk); (try clear hi)))
    go_meet
    case rel => exact ⟨_, (true), (by first | rfl | (simp; done) | (simp [*]; done)), H', ⟨by first | omega | exact Nat.le_refl _⟩, ⟨by (with_reducible repeat (first | refine blk_drewN ?_ _ | refine blk_drew ?_ | refine blk_alloc ?_ _)); exact BK282.out⟩, ⟨by repeat (first | (with_reducible first | exact HB.out | apply below_alloc | apply pw_below_drewN | apply below_drew1 | refine below_set ?_ GE282.out) | exact HB.out)⟩⟩
   ·
    rw [if_neg c9] at H
    have c9b0 : decide (a1 < 0) = false := decide_eq_false c9
    clear c9
    (first | rw [c9b0] | (simp only [i64_w, i32_w]; rw [c9b0]) | skip)
    by_cases c12 : a1 > 31
    ·
     rw [if_pos c12] at H
     have c12b0 : decide (31 < a1) = true := decide_eq_true c12
     clear c12
     have H' := Aside0.mk H
     clear H
     have hcz13_0 : w6.cell? ⟨gb282, 0, none⟩ = some (.int .u32 a0_0) := (blk_cell BK282.out 0).trans rfl
     have hcz13_1 : w6.cell? ⟨gb282, 1, none⟩ = some (.int .u8 a0_1) := (blk_cell BK282.out 1).trans rfl
     have hcz13_2 : w6.cell? ⟨gb282, 2, none⟩ = some (.int .i64 a0_2) := (blk_cell BK282.out 2).trans rfl
     have hcz13_3 : w6.cell? ⟨gb282, 3, none⟩ = some (.int .i64 a0_3) := (blk_cell BK282.out 3).trans rfl
     have hfz13_0 := blk_frozen BK282.out 0
     have hfz13_1 := blk_frozen BK282.out 1
     have hfz13_2 := blk_frozen BK282.out 2
     have hfz13_3 := blk_frozen BK282.out 3
     go_wp2_with (first | ((with_reducible refine gate_callee (f := 56) rfl ?_); refine goesL_ (some 10) rfl rfl Try.func56 (by kernel_rfl) rfl #[.agg #[.int .u32 a0_0, .int .u8 a0_1, .int .i64 a0_2, .int .i64 a0_3]] rfl (by (try simp only [List.map_toArray, List.map_cons, List.map_nil]); first | done | rfl | (simp only [List.length_drop, List.length_take]; rfl)) ?_; (with_reducible refine (horariumref09_Tame.calls a0_0 a0_1 a0_2 a0_3 true _ A7.out).mono ?_); rintro e w14 ⟨rfl, hb⟩; refine ⟨_, rfl, ?_⟩; have n0_ := Aside0.mk (blk_below (g := gb282) (o := .cells #[.int .u32 a0_0, .int .u8 a0_1, .int .i64 a0_2, .int .i64 a0_3] 26 (0, 0)) (by (with_reducible repeat (first | refine blk_drewN ?_ _ | refine blk_drew ?_ | refine blk_alloc ?_ _)); exact BK282.out) hb); have n1_ := Aside0.mk (below_step (by repeat (first | (with_reducible first | exact HB.out | apply below_alloc | apply pw_below_drewN | apply below_drew1 | refine below_set ?_ GE282.out) | exact HB.out)) hb); clear BK282; clear HB; have BK282 := n0_; have HB := n1_; clear n0_ n1_; (try clear hb); (try clear hb2); (try clear hk); (try clear hi)))
     go_meet
     case rel => exact ⟨_, (true), (by first | rfl | (simp; done) | (simp [*]; done)), H', ⟨by first | omega | exact Nat.le_refl _⟩, ⟨by (with_reducible repeat (first | refine blk_drewN ?_ _ | refine blk_drew ?_ | refine blk_alloc ?_ _)); exact BK282.out⟩, ⟨by repeat (first | (with_reducible first | exact HB.out | apply below_alloc | apply pw_below_drewN | apply below_drew1 | refine below_set ?_ GE282.out) | exact HB.out)⟩⟩
    ·
     rw [if_neg c12] at H
     have c12b0 : decide (31 < a1) = false := decide_eq_false c12
     clear c12
     by_cases c15 : a2 < 0
     ·
      rw [if_pos c15] at H
      have c15b0 : decide (a2 < 0) = true := decide_eq_true c15
      clear c15
      have H' := Aside0.mk H
      clear H
      have hcz16_0 : w6.cell? ⟨gb282, 0, none⟩ = some (.int .u32 a0_0) := (blk_cell BK282.out 0).trans rfl
      have hcz16_1 : w6.cell? ⟨gb282, 1, none⟩ = some (.int .u8 a0_1) := (blk_cell BK282.out 1).trans rfl
      have hcz16_2 : w6.cell? ⟨gb282, 2, none⟩ = some (.int .i64 a0_2) := (blk_cell BK282.out 2).trans rfl
      have hcz16_3 : w6.cell? ⟨gb282, 3, none⟩ = some (.int .i64 a0_3) := (blk_cell BK282.out 3).trans rfl
      have hfz16_0 := blk_frozen BK282.out 0
      have hfz16_1 := blk_frozen BK282.out 1
      have hfz16_2 := blk_frozen BK282.out 2
      have hfz16_3 := blk_frozen BK282.out 3
      go_wp2_with (first | ((with_reducible refine gate_callee (f := 56) rfl ?_); refine goesL_ (some 10) rfl rfl Try.func56 (by kernel_rfl) rfl #[.agg #[.int .u32 a0_0, .int .u8 a0_1, .int .i64 a0_2, .int .i64 a0_3]] rfl (by (try simp only [List.map_toArray, List.map_cons, List.map_nil]); first | done | rfl | (simp only [List.length_drop, List.length_take]; rfl)) ?_; (with_reducible refine (horariumref09_Tame.calls a0_0 a0_1 a0_2 a0_3 true _ A7.out).mono ?_); rintro e w17 ⟨rfl, hb⟩; refine ⟨_, rfl, ?_⟩; have n0_ := Aside0.mk (blk_below (g := gb282) (o := .cells #[.int .u32 a0_0, .int .u8 a0_1, .int .i64 a0_2, .int .i64 a0_3] 26 (0, 0)) (by (with_reducible repeat (first | refine blk_drewN ?_ _ | refine blk_drew ?_ | refine blk_alloc ?_ _)); exact BK282.out) hb); have n1_ := Aside0.mk (below_step (by repeat (first | (with_reducible first | exact HB.out | apply below_alloc | apply pw_below_drewN | apply below_drew1 | refine below_set ?_ GE282.out) | exact HB.out)) hb); clear BK282; clear HB; have BK282 := n0_; have HB := n1_; clear n0_ n1_; (try clear hb); (try clear hb2); (try clear hk); (try clear hi)))
      go_meet
      case rel => exact ⟨_, (true), (by first | rfl | (simp; done) | (simp [*]; done)), H', ⟨by first | omega | exact Nat.le_refl _⟩, ⟨by (with_reducible repeat (first | refine blk_drewN ?_ _ | refine blk_drew ?_ | refine blk_alloc ?_ _)); exact BK282.out⟩, ⟨by repeat (first | (with_reducible first | exact HB.out | apply below_alloc | apply pw_below_drewN | apply below_drew1 | refine below_set ?_ GE282.out) | exact HB.out)⟩⟩
     ·
      rw [if_neg c15] at H
      have c15b0 : decide (a2 < 0) = false := decide_eq_false c15
      clear c15
      have H' := Aside0.mk H
      clear H
      have hcz18_0 : w6.cell? ⟨gb282, 0, none⟩ = some (.int .u32 a0_0) := (blk_cell BK282.out 0).trans rfl
      have hcz18_1 : w6.cell? ⟨gb282, 1, none⟩ = some (.int .u8 a0_1) := (blk_cell BK282.out 1).trans rfl
      have hcz18_2 : w6.cell? ⟨gb282, 2, none⟩ = some (.int .i64 a0_2) := (blk_cell BK282.out 2).trans rfl
      have hcz18_3 : w6.cell? ⟨gb282, 3, none⟩ = some (.int .i64 a0_3) := (blk_cell BK282.out 3).trans rfl
      have hfz18_0 := blk_frozen BK282.out 0
      have hfz18_1 := blk_frozen BK282.out 1
      have hfz18_2 := blk_frozen BK282.out 2
      have hfz18_3 := blk_frozen BK282.out 3
      go_wp2_with (first | ((with_reducible refine gate_callee (f := 56) rfl ?_); refine goesL_ (some 10) rfl rfl Try.func56 (by kernel_rfl) rfl #[.agg #[.int .u32 a0_0, .int .u8 a0_1, .int .i64 a0_2, .int .i64 a0_3]] rfl (by (try simp only [List.map_toArray, List.map_cons, List.map_nil]); first | done | rfl | (simp only [List.length_drop, List.length_take]; rfl)) ?_; (with_reducible refine (horariumref09_Tame.calls a0_0 a0_1 a0_2 a0_3 true _ A7.out).mono ?_); rintro e w19 ⟨rfl, hb⟩; refine ⟨_, rfl, ?_⟩; have n0_ := Aside0.mk (blk_below (g := gb282) (o := .cells #[.int .u32 a0_0, .int .u8 a0_1, .int .i64 a0_2, .int .i64 a0_3] 26 (0, 0)) (by (with_reducible repeat (first | refine blk_drewN ?_ _ | refine blk_drew ?_ | refine blk_alloc ?_ _)); exact BK282.out) hb); have n1_ := Aside0.mk (below_step (by repeat (first | (with_reducible first | exact HB.out | apply below_alloc | apply pw_below_drewN | apply below_drew1 | refine below_set ?_ GE282.out) | exact HB.out)) hb); clear BK282; clear HB; have BK282 := n0_; have HB := n1_; clear n0_ n1_; (try clear hb); (try clear hb2); (try clear hk); (try clear hi)))
      go_meet
      case rel => exact ⟨_, (decide (a2 > 7)), (by first | rfl | (simp; done) | (simp [*]; done)), H', ⟨by first | omega | exact Nat.le_refl _⟩, ⟨by (with_reducible repeat (first | refine blk_drewN ?_ _ | refine blk_drew ?_ | refine blk_alloc ?_ _)); exact BK282.out⟩, ⟨by repeat (first | (with_reducible first | exact HB.out | apply below_alloc | apply pw_below_drewN | apply below_drew1 | refine below_set ?_ GE282.out) | exact HB.out)⟩⟩
  ·
   replace c8 := Bool.eq_false_iff.mpr c8
   subst c8
   have H1 : (horariumref09_On.j0 k a1 a2 a3 true a0_0 a0_1 a0_2 a0_3) = some r := by rw [if_neg (show ¬ (false = true) by decide)] at H; exact H
   clear H
   have H := H1
   clear H1
   have H' := Aside0.mk H
   clear H
   have hcz20_0 : w6.cell? ⟨gb282, 0, none⟩ = some (.int .u32 a0_0) := (blk_cell BK282.out 0).trans rfl
   have hcz20_1 : w6.cell? ⟨gb282, 1, none⟩ = some (.int .u8 a0_1) := (blk_cell BK282.out 1).trans rfl
   have hcz20_2 : w6.cell? ⟨gb282, 2, none⟩ = some (.int .i64 a0_2) := (blk_cell BK282.out 2).trans rfl
   have hcz20_3 : w6.cell? ⟨gb282, 3, none⟩ = some (.int .i64 a0_3) := (blk_cell BK282.out 3).trans rfl
   have hfz20_0 := blk_frozen BK282.out 0
   have hfz20_1 := blk_frozen BK282.out 1
   have hfz20_2 := blk_frozen BK282.out 2
   have hfz20_3 := blk_frozen BK282.out 3
   go_wp2_with (first | ((with_reducible refine gate_callee (f := 56) rfl ?_); refine goesL_ (some 10) rfl rfl Try.func56 (by kernel_rfl) rfl #[.agg #[.int .u32 a0_0, .int .u8 a0_1, .int .i64 a0_2, .int .i64 a0_3]] rfl (by (try simp only [List.map_toArray, List.map_cons, List.map_nil]); first | done | rfl | (simp only [List.length_drop, List.length_take]; rfl)) ?_; (with_reducible refine (horariumref09_Tame.calls a0_0 a0_1 a0_2 a0_3 false _ A7.out).mono ?_); rintro e w21 ⟨rfl, hb⟩; refine ⟨_, rfl, ?_⟩; have n0_ := Aside0.mk (blk_below (g := gb282) (o := .cells #[.int .u32 a0_0, .int .u8 a0_1, .int .i64 a0_2, .int .i64 a0_3] 26 (0, 0)) (by (with_reducible repeat (first | refine blk_drewN ?_ _ | refine blk_drew ?_ | refine blk_alloc ?_ _)); exact BK282.out) hb); have n1_ := Aside0.mk (below_step (by repeat (first | (with_reducible first | exact HB.out | apply below_alloc | apply pw_below_drewN | apply below_drew1 | refine below_set ?_ GE282.out) | exact HB.out)) hb); clear BK282; clear HB; have BK282 := n0_; have HB := n1_; clear n0_ n1_; (try clear hb); (try clear hb2); (try clear hk); (try clear hi)))
   go_meet
   case rel => exact ⟨_, (true), (by first | rfl | (simp; done) | (simp [*]; done)), H', ⟨by first | omega | exact Nat.le_refl _⟩, ⟨by (with_reducible repeat (first | refine blk_drewN ?_ _ | refine blk_drew ?_ | refine blk_alloc ?_ _)); exact BK282.out⟩, ⟨by repeat (first | (with_reducible first | exact HB.out | apply below_alloc | apply pw_below_drewN | apply below_drew1 | refine below_set ?_ GE282.out) | exact HB.out)⟩⟩
 case rest =>
  clear HC5
  try clear c1
  try clear p2
  try clear c5
  try clear c6
  try clear c8
  try clear c9
  try clear c9b0
  try clear c12
  try clear c12b0
  try clear c15
  try clear c15b0
  try clear hcz10_0
  try clear hcz10_1
  try clear hcz10_2
  try clear hcz10_3
  try clear hcz13_0
  try clear hcz13_1
  try clear hcz13_2
  try clear hcz13_3
  try clear hcz16_0
  try clear hcz16_1
  try clear hcz16_2
  try clear hcz16_3
  try clear hcz18_0
  try clear hcz18_1
  try clear hcz18_2
  try clear hcz18_3
  try clear hcz20_0
  try clear hcz20_1
  try clear hcz20_2
  try clear hcz20_3
  try clear hfz10_0
  try clear hfz10_1
  try clear hfz10_2
  try clear hfz10_3
  try clear hfz13_0
  try clear hfz13_1
  try clear hfz13_2
  try clear hfz13_3
  try clear hfz16_0
  try clear hfz16_1
  try clear hfz16_2
  try clear hfz16_3
  try clear hfz18_0
  try clear hfz18_1
  try clear hfz18_2
  try clear hfz18_3
  try clear hfz20_0
  try clear hfz20_1
  try clear hfz20_2
  try clear hfz20_3
  obtain ⟨kq, x27_4, rfl, HA, HJ4, BK282, HB⟩ := hcut
  cases kq with
  | zero => exact absurd HA.out (by simp [horariumref09_On.j0])
  | succ kj4 =>
   have H := HA.out
   clear HA
   simp only [horariumref09_On.j0] at H
   by_cases c22 : x27_4 = true
   ·
    subst c22
    have H1 : (some false) = some r := by rw [if_pos rfl] at H; exact H
    clear H
    have H := H1
    clear H1
    obtain rfl := Option.some.inj H
    go_wp2
    go_ret
    exact ⟨by first | rfl | (simp [errW_none, errW_some] <;> rfl) | (simp [*, errW_none, errW_some] <;> rfl), by repeat (first | (with_reducible first | exact HB.out | apply below_alloc | apply pw_below_drewN | apply below_drew1 | refine below_set ?_ GE282.out) | exact HB.out)⟩
   ·
    replace c22 := Bool.eq_false_iff.mpr c22
    subst c22
    have H1 : ((horariumref09_bit.f a0_0 a1).bind fun t284 => (if t284 = true then ((horariumref09_bit.f ((a0_1) % 4294967296) a2).bind fun t285 => (if t285 = true then (if a3 ≥ a0_2 then (some (decide (a3 < (wrap64 (a0_2 + a0_3))))) else (some false)) else (some false))) else (some false))) = some r := by rw [if_neg (show ¬ (false = true) by decide)] at H; exact H
    clear H
    have H := H1
    clear H1
    replace H := Option.bind_eq_some_iff.mp H
    obtain ⟨t284, A230, H⟩ := H
    replace H : (if t284 = true then ((horariumref09_bit.f ((a0_1) % 4294967296) a2).bind fun t285 => (if t285 = true then (if a3 ≥ a0_2 then (some (decide (a3 < (wrap64 (a0_2 + a0_3))))) else (some false)) else (some false))) else (some false)) = some r := H
    have A23 := Aside0.mk A230
    clear A230
    by_cases c24 : t284 = true
    ·
     subst c24
     have H1 : ((horariumref09_bit.f ((a0_1) % 4294967296) a2).bind fun t285 => (if t285 = true then (if a3 ≥ a0_2 then (some (decide (a3 < (wrap64 (a0_2 + a0_3))))) else (some false)) else (some false))) = some r := by rw [if_pos rfl] at H; exact H
     clear H
     have H := H1
     clear H1
     replace H := Option.bind_eq_some_iff.mp H
     obtain ⟨t285, A250, H⟩ := H
     replace H : (if t285 = true then (if a3 ≥ a0_2 then (some (decide (a3 < (wrap64 (a0_2 + a0_3))))) else (some false)) else (some false)) = some r := H
     have A25 := Aside0.mk A250
     clear A250
     by_cases c26 : t285 = true
     ·
      subst c26
      have H1 : (if a3 ≥ a0_2 then (some (decide (a3 < (wrap64 (a0_2 + a0_3))))) else (some false)) = some r := by rw [if_pos rfl] at H; exact H
      clear H
      have H := H1
      clear H1
      by_cases c27 : a3 ≥ a0_2
      ·
       rw [if_pos c27] at H
       have c27b0 : decide (a0_2 ≤ a3) = true := decide_eq_true c27
       clear c27
       obtain rfl := Option.some.inj H
       have hcz28_0 : wc.cell? ⟨gb282, 0, none⟩ = some (.int .u32 a0_0) := (blk_cell BK282.out 0).trans rfl
       have hcz28_1 : wc.cell? ⟨gb282, 1, none⟩ = some (.int .u8 a0_1) := (blk_cell BK282.out 1).trans rfl
       have hcz28_2 : wc.cell? ⟨gb282, 2, none⟩ = some (.int .i64 a0_2) := (blk_cell BK282.out 2).trans rfl
       have hcz28_3 : wc.cell? ⟨gb282, 3, none⟩ = some (.int .i64 a0_3) := (blk_cell BK282.out 3).trans rfl
       have hfz28_0 := blk_frozen BK282.out 0
       have hfz28_1 := blk_frozen BK282.out 1
       have hfz28_2 := blk_frozen BK282.out 2
       have hfz28_3 := blk_frozen BK282.out 3
       go_wp2_with (first | ((with_reducible refine gate_callee (f := 36) rfl ?_); refine goesL_ (some 31) rfl rfl Try.func36 (by kernel_rfl) rfl #[.int .u32 a0_0, .int .i64 a1] rfl (by (try simp only [List.map_toArray, List.map_cons, List.map_nil]); first | done | rfl | (simp only [List.length_drop, List.length_take]; rfl)) ?_; (with_reducible refine (horariumref09_bit.calls a0_0 a1 true _ A23.out).mono ?_); rintro e w' ⟨rfl, ⟨nd, rfl⟩⟩; refine ⟨_, rfl, ?_⟩) | (go_at_call 36; (with_reducible refine (horariumref09_bit.calls ((a0_1) % 4294967296) a2 true _ A25.out).mono ?_); rintro e w' ⟨rfl, ⟨nd, rfl⟩⟩))
       go_ret
       exact ⟨by first | rfl | (simp [errW_none, errW_some] <;> rfl) | (simp [*, errW_none, errW_some] <;> rfl), by repeat (first | (with_reducible first | exact HB.out | apply below_alloc | apply pw_below_drewN | apply below_drew1 | refine below_set ?_ GE282.out) | exact HB.out)⟩
      ·
       rw [if_neg c27] at H
       have c27b0 : decide (a0_2 ≤ a3) = false := decide_eq_false c27
       clear c27
       obtain rfl := Option.some.inj H
       have hcz29_0 : wc.cell? ⟨gb282, 0, none⟩ = some (.int .u32 a0_0) := (blk_cell BK282.out 0).trans rfl
       have hcz29_1 : wc.cell? ⟨gb282, 1, none⟩ = some (.int .u8 a0_1) := (blk_cell BK282.out 1).trans rfl
       have hcz29_2 : wc.cell? ⟨gb282, 2, none⟩ = some (.int .i64 a0_2) := (blk_cell BK282.out 2).trans rfl
       have hcz29_3 : wc.cell? ⟨gb282, 3, none⟩ = some (.int .i64 a0_3) := (blk_cell BK282.out 3).trans rfl
       have hfz29_0 := blk_frozen BK282.out 0
       have hfz29_1 := blk_frozen BK282.out 1
       have hfz29_2 := blk_frozen BK282.out 2
       have hfz29_3 := blk_frozen BK282.out 3
       go_wp2_with (first | ((with_reducible refine gate_callee (f := 36) rfl ?_); refine goesL_ (some 31) rfl rfl Try.func36 (by kernel_rfl) rfl #[.int .u32 a0_0, .int .i64 a1] rfl (by (try simp only [List.map_toArray, List.map_cons, List.map_nil]); first | done | rfl | (simp only [List.length_drop, List.length_take]; rfl)) ?_; (with_reducible refine (horariumref09_bit.calls a0_0 a1 true _ A23.out).mono ?_); rintro e w' ⟨rfl, ⟨nd, rfl⟩⟩; refine ⟨_, rfl, ?_⟩) | (go_at_call 36; (with_reducible refine (horariumref09_bit.calls ((a0_1) % 4294967296) a2 true _ A25.out).mono ?_); rintro e w' ⟨rfl, ⟨nd, rfl⟩⟩))
       go_ret
       exact ⟨by first | rfl | (simp [errW_none, errW_some] <;> rfl) | (simp [*, errW_none, errW_some] <;> rfl), by repeat (first | (with_reducible first | exact HB.out | apply below_alloc | apply pw_below_drewN | apply below_drew1 | refine below_set ?_ GE282.out) | exact HB.out)⟩
     ·
      replace c26 := Bool.eq_false_iff.mpr c26
      subst c26
      have H1 : (some false) = some r := by rw [if_neg (show ¬ (false = true) by decide)] at H; exact H
      clear H
      have H := H1
      clear H1
      obtain rfl := Option.some.inj H
      have hcz30_0 : wc.cell? ⟨gb282, 0, none⟩ = some (.int .u32 a0_0) := (blk_cell BK282.out 0).trans rfl
      have hcz30_1 : wc.cell? ⟨gb282, 1, none⟩ = some (.int .u8 a0_1) := (blk_cell BK282.out 1).trans rfl
      have hcz30_2 : wc.cell? ⟨gb282, 2, none⟩ = some (.int .i64 a0_2) := (blk_cell BK282.out 2).trans rfl
      have hcz30_3 : wc.cell? ⟨gb282, 3, none⟩ = some (.int .i64 a0_3) := (blk_cell BK282.out 3).trans rfl
      have hfz30_0 := blk_frozen BK282.out 0
      have hfz30_1 := blk_frozen BK282.out 1
      have hfz30_2 := blk_frozen BK282.out 2
      have hfz30_3 := blk_frozen BK282.out 3
      go_wp2_with (first | ((with_reducible refine gate_callee (f := 36) rfl ?_); refine goesL_ (some 31) rfl rfl Try.func36 (by kernel_rfl) rfl #[.int .u32 a0_0, .int .i64 a1] rfl (by (try simp only [List.map_toArray, List.map_cons, List.map_nil]); first | done | rfl | (simp only [List.length_drop, List.length_take]; rfl)) ?_; (with_reducible refine (horariumref09_bit.calls a0_0 a1 true _ A23.out).mono ?_); rintro e w' ⟨rfl, ⟨nd, rfl⟩⟩; refine ⟨_, rfl, ?_⟩) | (go_at_call 36; (with_reducible refine (horariumref09_bit.calls ((a0_1) % 4294967296) a2 false _ A25.out).mono ?_); rintro e w' ⟨rfl, ⟨nd, rfl⟩⟩))
      go_ret
      exact ⟨by first | rfl | (simp [errW_none, errW_some] <;> rfl) | (simp [*, errW_none, errW_some] <;> rfl), by repeat (first | (with_reducible first | exact HB.out | apply below_alloc | apply pw_below_drewN | apply below_drew1 | refine below_set ?_ GE282.out) | exact HB.out)⟩
    ·
     replace c24 := Bool.eq_false_iff.mpr c24
     subst c24
     have H1 : (some false) = some r := by rw [if_neg (show ¬ (false = true) by decide)] at H; exact H
     clear H
     have H := H1
     clear H1
     obtain rfl := Option.some.inj H
     have hcz31_0 : wc.cell? ⟨gb282, 0, none⟩ = some (.int .u32 a0_0) := (blk_cell BK282.out 0).trans rfl
     have hcz31_1 : wc.cell? ⟨gb282, 1, none⟩ = some (.int .u8 a0_1) := (blk_cell BK282.out 1).trans rfl
     have hcz31_2 : wc.cell? ⟨gb282, 2, none⟩ = some (.int .i64 a0_2) := (blk_cell BK282.out 2).trans rfl
     have hcz31_3 : wc.cell? ⟨gb282, 3, none⟩ = some (.int .i64 a0_3) := (blk_cell BK282.out 3).trans rfl
     have hfz31_0 := blk_frozen BK282.out 0
     have hfz31_1 := blk_frozen BK282.out 1
     have hfz31_2 := blk_frozen BK282.out 2
     have hfz31_3 := blk_frozen BK282.out 3
     go_wp2_with (first | ((with_reducible refine gate_callee (f := 36) rfl ?_); refine goesL_ (some 31) rfl rfl Try.func36 (by kernel_rfl) rfl #[.int .u32 a0_0, .int .i64 a1] rfl (by (try simp only [List.map_toArray, List.map_cons, List.map_nil]); first | done | rfl | (simp only [List.length_drop, List.length_take]; rfl)) ?_; (with_reducible refine (horariumref09_bit.calls a0_0 a1 false _ A23.out).mono ?_); rintro e w' ⟨rfl, ⟨nd, rfl⟩⟩; refine ⟨_, rfl, ?_⟩))
     go_ret
     exact ⟨by first | rfl | (simp [errW_none, errW_some] <;> rfl) | (simp [*, errW_none, errW_some] <;> rfl), by repeat (first | (with_reducible first | exact HB.out | apply below_alloc | apply pw_below_drewN | apply below_drew1 | refine below_set ?_ GE282.out) | exact HB.out)⟩

end Go.Proofs.Ytddheiloodfkdaa.Q
