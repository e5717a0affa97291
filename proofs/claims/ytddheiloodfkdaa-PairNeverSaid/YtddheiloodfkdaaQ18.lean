-- Written by a program of this claim's prover; Lean checks it.
import Derived.Test.YtddheiloodfkdaaQ0
namespace Go.Proofs.Ytddheiloodfkdaa.Q
open Go.RowKit Go.Proofs.YtddheiloodfkdaaW.PrintWords Go.Proofs.YtddheiloodfkdaaW.PrintLast Go.Proofs.YtddheiloodfkdaaW.PrintMore
attribute [local go_sem] max2_int min2_int max_two min_two max_three min_three max_four min_four   -- for this text's walks alone
set_option linter.unusedVariables false
set_option linter.unusedSimpArgs false

/-! ### horariumref09_slots: function 54 -/
def horariumref09_slots.l0 : Nat → Int → Int → Int → Int → Int → Int → Int → Int → Int → Option (Bool)
  | 0, _, _, _, _, _, _, _, _, _ => none
  | k + 1, x5, x273000, x273001, x273002, x273003, x274000, x274001, x274002, x274003 => if x5 < 192 then (if x5 ≥ x273002 then (if x5 < (wrap64 (x273002 + x273003)) then (if x5 ≥ x274002 then (if x5 < (wrap64 (x274002 + x274003)) then (some true) else (horariumref09_slots.l0 k (wrap64 (x5 + 1)) x273000 x273001 x273002 x273003 x274000 x274001 x274002 x274003)) else (horariumref09_slots.l0 k (wrap64 (x5 + 1)) x273000 x273001 x273002 x273003 x274000 x274001 x274002 x274003)) else (horariumref09_slots.l0 k (wrap64 (x5 + 1)) x273000 x273001 x273002 x273003 x274000 x274001 x274002 x274003)) else (horariumref09_slots.l0 k (wrap64 (x5 + 1)) x273000 x273001 x273002 x273003 x274000 x274001 x274002 x274003)) else (some false)
def horariumref09_slots.f (k : Nat) (a0_0 : Int) (a0_1 : Int) (a0_2 : Int) (a0_3 : Int) (a1_0 : Int) (a1_1 : Int) (a1_2 : Int) (a1_3 : Int) : Option (Bool) := horariumref09_slots.l0 k 0 a0_0 a0_1 a0_2 a0_3 a1_0 a1_1 a1_2 a1_3
theorem horariumref09_slots.mono_l : ∀ k, (∀ y0 y1 y2 y3 y4 y5 y6 y7 y8, LeO (horariumref09_slots.l0 k y0 y1 y2 y3 y4 y5 y6 y7 y8) (horariumref09_slots.l0 (k + 1) y0 y1 y2 y3 y4 y5 y6 y7 y8))
  | 0 => fun _ _ _ _ _ _ _ _ _ r h => by simp [horariumref09_slots.l0] at h
  | k + 1 => by
    have ih0 := horariumref09_slots.mono_l k
    · intro y0 y1 y2 y3 y4 y5 y6 y7 y8
      unfold horariumref09_slots.l0
      repeat' first
      | (with_reducible exact ih0 _ _ _ _ _ _ _ _ _)
      | (with_reducible exact LeO.refl _)
      | (with_reducible exact LeO.none _)
      | (with_reducible refine LeO.ite ?_ ?_)
      | (with_reducible refine LeO.bind ?_ (fun _ => ?_))
      | exact ih0 _ _ _ _ _ _ _ _ _
      | exact LeO.none _
      | refine LeO.ite ?_ ?_
      | refine LeO.bind ?_ (fun _ => ?_)
theorem horariumref09_slots.mono : ∀ a0 a1 a2 a3 a4 a5 a6 a7 k, LeO (horariumref09_slots.f k a0 a1 a2 a3 a4 a5 a6 a7) (horariumref09_slots.f (k + 1) a0 a1 a2 a3 a4 a5 a6 a7) := by
  intro a0 a1 a2 a3 a4 a5 a6 a7 k
  have ih0 := horariumref09_slots.mono_l k
  unfold horariumref09_slots.f
  repeat' first
      | (with_reducible exact ih0 _ _ _ _ _ _ _ _ _)
      | (with_reducible exact LeO.refl _)
      | (with_reducible exact LeO.none _)
      | (with_reducible refine LeO.ite ?_ ?_)
      | (with_reducible refine LeO.bind ?_ (fun _ => ?_))
      | exact ih0 _ _ _ _ _ _ _ _ _
      | exact LeO.none _
      | refine LeO.ite ?_ ?_
      | refine LeO.bind ?_ (fun _ => ?_)
set_option maxHeartbeats 8000000 in
set_option maxRecDepth 100000 in
theorem horariumref09_slots.calls (k : Nat) (a0_0 : Int) (a0_1 : Int) (a0_2 : Int) (a0_3 : Int) (a1_0 : Int) (a1_1 : Int) (a1_2 : Int) (a1_3 : Int) (r : Bool) (w : World) (h : horariumref09_slots.f k a0_0 a0_1 a0_2 a0_3 a1_0 a1_1 a1_2 a1_3 = some r) :
  Calls Try.prog 54 #[.agg #[.int .u32 a0_0, .int .u8 a0_1, .int .i64 a0_2, .int .i64 a0_3], .agg #[.int .u32 a1_0, .int .u8 a1_1, .int .i64 a1_2, .int .i64 a1_3]] w fun e w' => e = .returned (.bool r) ∧ Below w.heap.size w w' := by
 have hu26 := Try.underlying26
 have HB := Aside0.mk (Below.refl w.heap.size w)
 have H : (horariumref09_slots.l0 k 0 a0_0 a0_1 a0_2 a0_3 a1_0 a1_1 a1_2 a1_3) = some r := h
 clear h
 have H' := Aside0.mk H
 clear H
 go_enter Try.func54, Try.ntmps54
 go_wp2_with (first | ((with_reducible refine gate_dst (N := 2) rfl ?_); refine box_event ?hg (N := 2) ?hd (cs := #[.int .u32 a0_0, .int .u8 a0_1, .int .i64 a0_2, .int .i64 a0_3]) (t := 26) ?hr ?_; (case hd => rfl); (case hg => rfl); (case hr => first | (go_simp; done) | (go_simp; rfl)); intro gb272 hg w3 hbox hb; have n0_ := Aside0.mk (below_step (by repeat (first | (with_reducible first | exact HB.out | apply below_alloc | apply pw_below_drewN | apply below_drew1) | exact HB.out)) hb); have n1_ := Aside0.mk (hbox); have n2_ := Aside0.mk ((by rw [hg]; exact (below_size (by repeat (first | (with_reducible first | exact HB.out | apply below_alloc | apply pw_below_drewN | apply below_drew1) | exact HB.out))) : w.heap.size ≤ gb272)); have n3_ := Aside0.mk ((by rw [hg]; exact (below_size (by repeat (first | (with_reducible first | exact HB.out | apply below_alloc | apply pw_below_drewN | apply below_drew1) | exact HB.out))) : w.heap.size ≤ gb272)); clear HB; have HB := n0_; have BK272 := n1_; have GW272 := n2_; have GE272 := n3_; clear n0_ n1_ n2_ n3_; clear hb hbox hg) | ((with_reducible refine gate_dst (N := 3) rfl ?_); refine box_event ?hg (N := 3) ?hd (cs := #[.int .u32 a1_0, .int .u8 a1_1, .int .i64 a1_2, .int .i64 a1_3]) (t := 26) ?hr ?_; (case hd => rfl); (case hg => rfl); (case hr => first | (go_simp; done) | (go_simp; rfl)); intro gb273 hg w4 hbox hb; have n0_ := Aside0.mk (blk_below (g := gb272) (o := .cells #[.int .u32 a0_0, .int .u8 a0_1, .int .i64 a0_2, .int .i64 a0_3] 26 (0, 0)) (by (with_reducible repeat (first | refine blk_drewN ?_ _ | refine blk_drew ?_ | refine blk_alloc ?_ _)); exact BK272.out) hb); have n1_ := Aside0.mk (below_step (by repeat (first | (with_reducible first | exact HB.out | apply below_alloc | apply pw_below_drewN | apply below_drew1 | refine below_set ?_ GE272.out) | exact HB.out)) hb); have n2_ := Aside0.mk (hbox); have n3_ := Aside0.mk ((by rw [hg]; exact (below_size (by repeat (first | (with_reducible first | exact HB.out | apply below_alloc | apply pw_below_drewN | apply below_drew1 | refine below_set ?_ GE272.out) | exact HB.out))) : w.heap.size ≤ gb273)); have n4_ := Aside0.mk ((by rw [hg]; exact (below_size (by repeat (first | (with_reducible first | exact HB.out | apply below_alloc | apply pw_below_drewN | apply below_drew1 | refine below_set ?_ GE272.out) | exact HB.out))) : w.heap.size ≤ gb273)); have n5_ := Aside0.mk ((by rw [hg]; exact Nat.ne_of_lt (blk_lt (g := gb272) (o := .cells #[.int .u32 a0_0, .int .u8 a0_1, .int .i64 a0_2, .int .i64 a0_3] 26 (0, 0)) (by (with_reducible repeat (first | refine blk_drewN ?_ _ | refine blk_drew ?_ | refine blk_alloc ?_ _)); exact BK272.out)) : gb272 ≠ gb273)); have n6_ := Aside0.mk ((by rw [hg]; exact Nat.ne_of_gt (blk_lt (g := gb272) (o := .cells #[.int .u32 a0_0, .int .u8 a0_1, .int .i64 a0_2, .int .i64 a0_3] 26 (0, 0)) (by (with_reducible repeat (first | refine blk_drewN ?_ _ | refine blk_drew ?_ | refine blk_alloc ?_ _)); exact BK272.out)) : gb273 ≠ gb272)); clear BK272; clear HB; have BK272 := n0_; have HB := n1_; have BK273 := n2_; have GW273 := n3_; have GE273 := n4_; have NB272_273 := n5_; have NB273_272 := n6_; clear n0_ n1_ n2_ n3_ n4_ n5_ n6_; clear hb hbox hg))
 go_loopg [5] k (fun kq v5 w' => ∃ (x5_1 : Int), v5 = .int .i64 x5_1 ∧ Aside0 (horariumref09_slots.l0 kq x5_1 a0_0 a0_1 a0_2 a0_3 a1_0 a1_1 a1_2 a1_3 = some r) ∧ Aside0 (kq ≤ k) ∧ Aside0 (w'.heap[gb272]? = some (.cells #[.int .u32 a0_0, .int .u8 a0_1, .int .i64 a0_2, .int .i64 a0_3] 26 (0, 0))) ∧ Aside0 (w'.heap[gb273]? = some (.cells #[.int .u32 a1_0, .int .u8 a1_1, .int .i64 a1_2, .int .i64 a1_3] 26 (0, 0))) ∧ Aside0 (Below w.heap.size w w'))
 case atStart => exact ⟨(0), (by first | rfl | (simp; done) | (simp [*]; done)), H', ⟨Nat.le_refl _⟩, ⟨by (with_reducible repeat (first | refine blk_drewN ?_ _ | refine blk_drew ?_ | refine blk_alloc ?_ _)); exact BK272.out⟩, ⟨by (with_reducible repeat (first | refine blk_drewN ?_ _ | refine blk_drew ?_ | refine blk_alloc ?_ _)); exact BK273.out⟩, ⟨by repeat (first | (with_reducible first | exact HB.out | apply below_alloc | apply pw_below_drewN | apply below_drew1 | refine below_set ?_ GE272.out | refine below_set ?_ GE273.out) | exact HB.out)⟩⟩
 case round =>
  clear H'
  try clear p2
  obtain ⟨x5_1, rfl, HA, HK1, BK272, BK273, HB⟩ := hrel
  cases gk with
  | zero => exact absurd HA.out (by simp [horariumref09_slots.l0])
  | succ k1 =>
   have H := HA.out
   clear HA
   simp only [horariumref09_slots.l0] at H
   by_cases c5 : x5_1 < 192
   ·
    rw [if_pos c5] at H
    have c5b0 : decide (x5_1 < 192) = true := decide_eq_true c5
    clear c5
    by_cases c6 : x5_1 ≥ a0_2
    ·
     rw [if_pos c6] at H
     have c6b0 : decide (a0_2 ≤ x5_1) = true := decide_eq_true c6
     clear c6
     by_cases c7 : x5_1 < (wrap64 (a0_2 + a0_3))
     ·
      rw [if_pos c7] at H
      have c7b0 : decide (x5_1 < (wrap64 (a0_2 + a0_3))) = true := decide_eq_true c7
      clear c7
      by_cases c8 : x5_1 ≥ a1_2
      ·
       rw [if_pos c8] at H
       have c8b0 : decide (a1_2 ≤ x5_1) = true := decide_eq_true c8
       clear c8
       by_cases c9 : x5_1 < (wrap64 (a1_2 + a1_3))
       ·
        rw [if_pos c9] at H
        have c9b0 : decide (x5_1 < (wrap64 (a1_2 + a1_3))) = true := decide_eq_true c9
        clear c9
        obtain rfl := Option.some.inj H
        have hnb10 := NB272_273.out
        have hnc10 := NB273_272.out
        have hcz11_0 : wr.cell? ⟨gb272, 0, none⟩ = some (.int .u32 a0_0) := (blk_cell BK272.out 0).trans rfl
        have hcz11_1 : wr.cell? ⟨gb272, 1, none⟩ = some (.int .u8 a0_1) := (blk_cell BK272.out 1).trans rfl
        have hcz11_2 : wr.cell? ⟨gb272, 2, none⟩ = some (.int .i64 a0_2) := (blk_cell BK272.out 2).trans rfl
        have hcz11_3 : wr.cell? ⟨gb272, 3, none⟩ = some (.int .i64 a0_3) := (blk_cell BK272.out 3).trans rfl
        have hfz11_0 := blk_frozen BK272.out 0
        have hfz11_1 := blk_frozen BK272.out 1
        have hfz11_2 := blk_frozen BK272.out 2
        have hfz11_3 := blk_frozen BK272.out 3
        have hcz12_0 : wr.cell? ⟨gb273, 0, none⟩ = some (.int .u32 a1_0) := (blk_cell BK273.out 0).trans rfl
        have hcz12_1 : wr.cell? ⟨gb273, 1, none⟩ = some (.int .u8 a1_1) := (blk_cell BK273.out 1).trans rfl
        have hcz12_2 : wr.cell? ⟨gb273, 2, none⟩ = some (.int .i64 a1_2) := (blk_cell BK273.out 2).trans rfl
        have hcz12_3 : wr.cell? ⟨gb273, 3, none⟩ = some (.int .i64 a1_3) := (blk_cell BK273.out 3).trans rfl
        have hfz12_0 := blk_frozen BK273.out 0
        have hfz12_1 := blk_frozen BK273.out 1
        have hfz12_2 := blk_frozen BK273.out 2
        have hfz12_3 := blk_frozen BK273.out 3
        go_wp2
        go_ret
        exact ⟨by first | rfl | (simp [errW_none, errW_some] <;> rfl) | (simp [*, errW_none, errW_some] <;> rfl), by repeat (first | (with_reducible first | exact HB.out | apply below_alloc | apply pw_below_drewN | apply below_drew1 | refine below_set ?_ GE272.out | refine below_set ?_ GE273.out) | exact HB.out)⟩
       ·
        rw [if_neg c9] at H
        have c9b0 : decide (x5_1 < (wrap64 (a1_2 + a1_3))) = false := decide_eq_false c9
        clear c9
        have H' := Aside0.mk H
        clear H
        have hnb13 := NB272_273.out
        have hnc13 := NB273_272.out
        have hcz14_0 : wr.cell? ⟨gb272, 0, none⟩ = some (.int .u32 a0_0) := (blk_cell BK272.out 0).trans rfl
        have hcz14_1 : wr.cell? ⟨gb272, 1, none⟩ = some (.int .u8 a0_1) := (blk_cell BK272.out 1).trans rfl
        have hcz14_2 : wr.cell? ⟨gb272, 2, none⟩ = some (.int .i64 a0_2) := (blk_cell BK272.out 2).trans rfl
        have hcz14_3 : wr.cell? ⟨gb272, 3, none⟩ = some (.int .i64 a0_3) := (blk_cell BK272.out 3).trans rfl
        have hfz14_0 := blk_frozen BK272.out 0
        have hfz14_1 := blk_frozen BK272.out 1
        have hfz14_2 := blk_frozen BK272.out 2
        have hfz14_3 := blk_frozen BK272.out 3
        have hcz15_0 : wr.cell? ⟨gb273, 0, none⟩ = some (.int .u32 a1_0) := (blk_cell BK273.out 0).trans rfl
        have hcz15_1 : wr.cell? ⟨gb273, 1, none⟩ = some (.int .u8 a1_1) := (blk_cell BK273.out 1).trans rfl
        have hcz15_2 : wr.cell? ⟨gb273, 2, none⟩ = some (.int .i64 a1_2) := (blk_cell BK273.out 2).trans rfl
        have hcz15_3 : wr.cell? ⟨gb273, 3, none⟩ = some (.int .i64 a1_3) := (blk_cell BK273.out 3).trans rfl
        have hfz15_0 := blk_frozen BK273.out 0
        have hfz15_1 := blk_frozen BK273.out 1
        have hfz15_2 := blk_frozen BK273.out 2
        have hfz15_3 := blk_frozen BK273.out 3
        go_wp2
        go_roundg k1
        case measure => have := HK1.out; omega
        case rel => exact ⟨(wrap64 (x5_1 + 1)), (by first | rfl | (simp; done) | (simp [*]; done)), H', ⟨by have := HK1.out; omega⟩, ⟨by (with_reducible repeat (first | refine blk_drewN ?_ _ | refine blk_drew ?_ | refine blk_alloc ?_ _)); exact BK272.out⟩, ⟨by (with_reducible repeat (first | refine blk_drewN ?_ _ | refine blk_drew ?_ | refine blk_alloc ?_ _)); exact BK273.out⟩, ⟨by repeat (first | (with_reducible first | exact HB.out | apply below_alloc | apply pw_below_drewN | apply below_drew1 | refine below_set ?_ GE272.out | refine below_set ?_ GE273.out) | exact HB.out)⟩⟩
      ·
       rw [if_neg c8] at H
       have c8b0 : decide (a1_2 ≤ x5_1) = false := decide_eq_false c8
       clear c8
       have H' := Aside0.mk H
       clear H
       have hnb16 := NB272_273.out
       have hnc16 := NB273_272.out
       have hcz17_0 : wr.cell? ⟨gb272, 0, none⟩ = some (.int .u32 a0_0) := (blk_cell BK272.out 0).trans rfl
       have hcz17_1 : wr.cell? ⟨gb272, 1, none⟩ = some (.int .u8 a0_1) := (blk_cell BK272.out 1).trans rfl
       have hcz17_2 : wr.cell? ⟨gb272, 2, none⟩ = some (.int .i64 a0_2) := (blk_cell BK272.out 2).trans rfl
       have hcz17_3 : wr.cell? ⟨gb272, 3, none⟩ = some (.int .i64 a0_3) := (blk_cell BK272.out 3).trans rfl
       have hfz17_0 := blk_frozen BK272.out 0
       have hfz17_1 := blk_frozen BK272.out 1
       have hfz17_2 := blk_frozen BK272.out 2
       have hfz17_3 := blk_frozen BK272.out 3
       have hcz18_0 : wr.cell? ⟨gb273, 0, none⟩ = some (.int .u32 a1_0) := (blk_cell BK273.out 0).trans rfl
       have hcz18_1 : wr.cell? ⟨gb273, 1, none⟩ = some (.int .u8 a1_1) := (blk_cell BK273.out 1).trans rfl
       have hcz18_2 : wr.cell? ⟨gb273, 2, none⟩ = some (.int .i64 a1_2) := (blk_cell BK273.out 2).trans rfl
       have hcz18_3 : wr.cell? ⟨gb273, 3, none⟩ = some (.int .i64 a1_3) := (blk_cell BK273.out 3).trans rfl
       have hfz18_0 := blk_frozen BK273.out 0
       have hfz18_1 := blk_frozen BK273.out 1
       have hfz18_2 := blk_frozen BK273.out 2
       have hfz18_3 := blk_frozen BK273.out 3
       go_wp2
       go_roundg k1
       case measure => have := HK1.out; omega
       case rel => exact ⟨(wrap64 (x5_1 + 1)), (by first | rfl | (simp; done) | (simp [*]; done)), H', ⟨by have := HK1.out; omega⟩, ⟨by (with_reducible repeat (first | refine blk_drewN ?_ _ | refine blk_drew ?_ | refine blk_alloc ?_ _)); exact BK272.out⟩, ⟨by (with_reducible repeat (first | refine blk_drewN ?_ _ | refine blk_drew ?_ | refine blk_alloc ?_ _)); exact BK273.out⟩, ⟨by repeat (first | (with_reducible first | exact HB.out | apply below_alloc | apply pw_below_drewN | apply below_drew1 | refine below_set ?_ GE272.out | refine below_set ?_ GE273.out) | exact HB.out)⟩⟩
     ·
      rw [if_neg c7] at H
      have c7b0 : decide (x5_1 < (wrap64 (a0_2 + a0_3))) = false := decide_eq_false c7
      clear c7
      have H' := Aside0.mk H
      clear H
      have hnb19 := NB272_273.out
      have hnc19 := NB273_272.out
      have hcz20_0 : wr.cell? ⟨gb272, 0, none⟩ = some (.int .u32 a0_0) := (blk_cell BK272.out 0).trans rfl
      have hcz20_1 : wr.cell? ⟨gb272, 1, none⟩ = some (.int .u8 a0_1) := (blk_cell BK272.out 1).trans rfl
      have hcz20_2 : wr.cell? ⟨gb272, 2, none⟩ = some (.int .i64 a0_2) := (blk_cell BK272.out 2).trans rfl
      have hcz20_3 : wr.cell? ⟨gb272, 3, none⟩ = some (.int .i64 a0_3) := (blk_cell BK272.out 3).trans rfl
      have hfz20_0 := blk_frozen BK272.out 0
      have hfz20_1 := blk_frozen BK272.out 1
      have hfz20_2 := blk_frozen BK272.out 2
      have hfz20_3 := blk_frozen BK272.out 3
      go_wp2
      go_roundg k1
      case measure => have := HK1.out; omega
      case rel => exact ⟨(wrap64 (x5_1 + 1)), (by first | rfl | (simp; done) | (simp [*]; done)), H', ⟨by have := HK1.out; omega⟩, ⟨by (with_reducible repeat (first | refine blk_drewN ?_ _ | refine blk_drew ?_ | refine blk_alloc ?_ _)); exact BK272.out⟩, ⟨by (with_reducible repeat (first | refine blk_drewN ?_ _ | refine blk_drew ?_ | refine blk_alloc ?_ _)); exact BK273.out⟩, ⟨by repeat (first | (with_reducible first | exact HB.out | apply below_alloc | apply pw_below_drewN | apply below_drew1 | refine below_set ?_ GE272.out | refine below_set ?_ GE273.out) | exact HB.out)⟩⟩
    ·
     rw [if_neg c6] at H
     have c6b0 : decide (a0_2 ≤ x5_1) = false := decide_eq_false c6
     clear c6
     have H' := Aside0.mk H
     clear H
     have hnb21 := NB272_273.out
     have hnc21 := NB273_272.out
     have hcz22_0 : wr.cell? ⟨gb272, 0, none⟩ = some (.int .u32 a0_0) := (blk_cell BK272.out 0).trans rfl
     have hcz22_1 : wr.cell? ⟨gb272, 1, none⟩ = some (.int .u8 a0_1) := (blk_cell BK272.out 1).trans rfl
     have hcz22_2 : wr.cell? ⟨gb272, 2, none⟩ = some (.int .i64 a0_2) := (blk_cell BK272.out 2).trans rfl
     have hcz22_3 : wr.cell? ⟨gb272, 3, none⟩ = some (.int .i64 a0_3) := (blk_cell BK272.out 3).trans rfl
     have hfz22_0 := blk_frozen BK272.out 0
     have hfz22_1 := blk_frozen BK272.out 1
     have hfz22_2 := blk_frozen BK272.out 2
     have hfz22_3 := blk_frozen BK272.out 3
     go_wp2
     go_roundg k1
     case measure => have := HK1.out; omega
     case rel => exact ⟨(wrap64 (x5_1 + 1)), (by first | rfl | (simp; done) | (simp [*]; done)), H', ⟨by have := HK1.out; omega⟩, ⟨by (with_reducible repeat (first | refine blk_drewN ?_ _ | refine blk_drew ?_ | refine blk_alloc ?_ _)); exact BK272.out⟩, ⟨by (with_reducible repeat (first | refine blk_drewN ?_ _ | refine blk_drew ?_ | refine blk_alloc ?_ _)); exact BK273.out⟩, ⟨by repeat (first | (with_reducible first | exact HB.out | apply below_alloc | apply pw_below_drewN | apply below_drew1 | refine below_set ?_ GE272.out | refine below_set ?_ GE273.out) | exact HB.out)⟩⟩
   ·
    rw [if_neg c5] at H
    have c5b0 : decide (x5_1 < 192) = false := decide_eq_false c5
    clear c5
    obtain rfl := Option.some.inj H
    go_wp2
    go_ret
    exact ⟨by first | rfl | (simp [errW_none, errW_some] <;> rfl) | (simp [*, errW_none, errW_some] <;> rfl), by repeat (first | (with_reducible first | exact HB.out | apply below_alloc | apply pw_below_drewN | apply below_drew1 | refine below_set ?_ GE272.out | refine below_set ?_ GE273.out) | exact HB.out)⟩

end Go.Proofs.Ytddheiloodfkdaa.Q
