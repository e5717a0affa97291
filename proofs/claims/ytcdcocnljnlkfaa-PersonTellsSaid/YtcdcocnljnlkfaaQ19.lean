-- Written by a program of this claim's prover; Lean checks it.
import Derived.Test.YtcdcocnljnlkfaaQ0
import Derived.Test.YtcdcocnljnlkfaaQ13
import Derived.Test.YtcdcocnljnlkfaaQ16
namespace Go.Proofs.Ytcdcocnljnlkfaa.Q
open Go.RowKit Go.Proofs.YtcdcocnljnlkfaaW.PrintWords Go.Proofs.YtcdcocnljnlkfaaW.PrintLast Go.Proofs.YtcdcocnljnlkfaaW.PrintMore
attribute [local go_sem] max2_int min2_int max_two min_two max_three min_three max_four min_four   -- for this text's walks alone
set_option linter.unusedVariables false
set_option linter.unusedSimpArgs false

/-! ### horariumref09_SameDay: function 55 -/
def horariumref09_SameDay.l0 : Nat → Bool → Bool → Int → Int → Int → Int → Int → Int → Int → Int → Int → Option (Bool)
  | 0, _, _, _, _, _, _, _, _, _, _, _ => none
  | k + 1, x5, x6, x7, x260000, x260001, x260002, x260003, x261000, x261001, x261002, x261003 => if x7 < 32 then (if x5 = true then (if x6 = true then (horariumref09_SameDay.l0 k true true (wrap64 (x7 + 1)) x260000 x260001 x260002 x260003 x261000 x261001 x261002 x261003) else (if x7 < 8 then ((horariumref09_bit.f ((x260001) % 4294967296) x7).bind fun t263 => (if t263 = true then ((horariumref09_bit.f ((x261001) % 4294967296) x7).bind fun t264 => (horariumref09_SameDay.l0 k true t264 (wrap64 (x7 + 1)) x260000 x260001 x260002 x260003 x261000 x261001 x261002 x261003)) else (horariumref09_SameDay.l0 k true false (wrap64 (x7 + 1)) x260000 x260001 x260002 x260003 x261000 x261001 x261002 x261003))) else (horariumref09_SameDay.l0 k true false (wrap64 (x7 + 1)) x260000 x260001 x260002 x260003 x261000 x261001 x261002 x261003))) else ((horariumref09_bit.f x260000 x7).bind fun t265 => (if t265 = true then ((horariumref09_bit.f x261000 x7).bind fun t266 => (if x6 = true then (horariumref09_SameDay.l0 k t266 true (wrap64 (x7 + 1)) x260000 x260001 x260002 x260003 x261000 x261001 x261002 x261003) else (if x7 < 8 then ((horariumref09_bit.f ((x260001) % 4294967296) x7).bind fun t267 => (if t267 = true then ((horariumref09_bit.f ((x261001) % 4294967296) x7).bind fun t268 => (horariumref09_SameDay.l0 k t266 t268 (wrap64 (x7 + 1)) x260000 x260001 x260002 x260003 x261000 x261001 x261002 x261003)) else (horariumref09_SameDay.l0 k t266 false (wrap64 (x7 + 1)) x260000 x260001 x260002 x260003 x261000 x261001 x261002 x261003))) else (horariumref09_SameDay.l0 k t266 false (wrap64 (x7 + 1)) x260000 x260001 x260002 x260003 x261000 x261001 x261002 x261003)))) else (if x6 = true then (horariumref09_SameDay.l0 k false true (wrap64 (x7 + 1)) x260000 x260001 x260002 x260003 x261000 x261001 x261002 x261003) else (if x7 < 8 then ((horariumref09_bit.f ((x260001) % 4294967296) x7).bind fun t269 => (if t269 = true then ((horariumref09_bit.f ((x261001) % 4294967296) x7).bind fun t270 => (horariumref09_SameDay.l0 k false t270 (wrap64 (x7 + 1)) x260000 x260001 x260002 x260003 x261000 x261001 x261002 x261003)) else (horariumref09_SameDay.l0 k false false (wrap64 (x7 + 1)) x260000 x260001 x260002 x260003 x261000 x261001 x261002 x261003))) else (horariumref09_SameDay.l0 k false false (wrap64 (x7 + 1)) x260000 x260001 x260002 x260003 x261000 x261001 x261002 x261003)))))) else ((horariumref09_Tame.f x260000 x260001 x260002 x260003).bind fun t261 => (if t261 = true then ((horariumref09_Tame.f x261000 x261001 x261002 x261003).bind fun t262 => (if t262 = true then (if x5 = true then (some x6) else (some false)) else (some false))) else (some false)))
def horariumref09_SameDay.f (k : Nat) (a0_0 : Int) (a0_1 : Int) (a0_2 : Int) (a0_3 : Int) (a1_0 : Int) (a1_1 : Int) (a1_2 : Int) (a1_3 : Int) : Option (Bool) := horariumref09_SameDay.l0 k false false 0 a0_0 a0_1 a0_2 a0_3 a1_0 a1_1 a1_2 a1_3
theorem horariumref09_SameDay.mono_l : ∀ k, (∀ y0 y1 y2 y3 y4 y5 y6 y7 y8 y9 y10, LeO (horariumref09_SameDay.l0 k y0 y1 y2 y3 y4 y5 y6 y7 y8 y9 y10) (horariumref09_SameDay.l0 (k + 1) y0 y1 y2 y3 y4 y5 y6 y7 y8 y9 y10))
  | 0 => fun _ _ _ _ _ _ _ _ _ _ _ r h => by simp [horariumref09_SameDay.l0] at h
  | k + 1 => by
    have ih0 := horariumref09_SameDay.mono_l k
    · intro y0 y1 y2 y3 y4 y5 y6 y7 y8 y9 y10
      unfold horariumref09_SameDay.l0
      repeat' first
      | (with_reducible exact ih0 _ _ _ _ _ _ _ _ _ _ _)
      | (with_reducible exact LeO.refl _)
      | (with_reducible exact LeO.none _)
      | (with_reducible refine LeO.ite ?_ ?_)
      | (with_reducible refine LeO.bind ?_ (fun _ => ?_))
      | exact ih0 _ _ _ _ _ _ _ _ _ _ _
      | exact LeO.none _
      | refine LeO.ite ?_ ?_
      | refine LeO.bind ?_ (fun _ => ?_)
theorem horariumref09_SameDay.mono : ∀ a0 a1 a2 a3 a4 a5 a6 a7 k, LeO (horariumref09_SameDay.f k a0 a1 a2 a3 a4 a5 a6 a7) (horariumref09_SameDay.f (k + 1) a0 a1 a2 a3 a4 a5 a6 a7) := by
  intro a0 a1 a2 a3 a4 a5 a6 a7 k
  have ih0 := horariumref09_SameDay.mono_l k
  unfold horariumref09_SameDay.f
  repeat' first
      | (with_reducible exact ih0 _ _ _ _ _ _ _ _ _ _ _)
      | (with_reducible exact LeO.refl _)
      | (with_reducible exact LeO.none _)
      | (with_reducible refine LeO.ite ?_ ?_)
      | (with_reducible refine LeO.bind ?_ (fun _ => ?_))
      | exact ih0 _ _ _ _ _ _ _ _ _ _ _
      | exact LeO.none _
      | refine LeO.ite ?_ ?_
      | refine LeO.bind ?_ (fun _ => ?_)
set_option maxHeartbeats 8000000 in
set_option maxRecDepth 100000 in
theorem horariumref09_SameDay.calls (k : Nat) (a0_0 : Int) (a0_1 : Int) (a0_2 : Int) (a0_3 : Int) (a1_0 : Int) (a1_1 : Int) (a1_2 : Int) (a1_3 : Int) (r : Bool) (w : World) (h : horariumref09_SameDay.f k a0_0 a0_1 a0_2 a0_3 a1_0 a1_1 a1_2 a1_3 = some r) :
    Calls Try.prog 55 #[.agg #[.int .u32 a0_0, .int .u8 a0_1, .int .i64 a0_2, .int .i64 a0_3], .agg #[.int .u32 a1_0, .int .u8 a1_1, .int .i64 a1_2, .int .i64 a1_3]] w fun e w' => e = .returned (.bool r) ∧ Below w.heap.size w w' := by
  have hu27 := Try.underlying27
  have HB := Aside0.mk (Below.refl w.heap.size w)
  have H : (horariumref09_SameDay.l0 k false false 0 a0_0 a0_1 a0_2 a0_3 a1_0 a1_1 a1_2 a1_3) = some r := h
  clear h
  have H' := Aside0.mk H
  clear H
  go_enter Try.func55, Try.ntmps55
  go_wp2_with (first | ((with_reducible refine gate_dst (N := 2) rfl ?_); refine box_event ?hg (N := 2) ?hd (cs := #[.int .u32 a0_0, .int .u8 a0_1, .int .i64 a0_2, .int .i64 a0_3]) (t := 27) ?hr ?_; (case hd => rfl); (case hg => rfl); (case hr => first | (go_simp; done) | (go_simp; rfl)); intro gb259 hg w3 hbox hb; have n0_ := Aside0.mk (below_step (by repeat (first | (with_reducible first | exact HB.out | apply below_alloc | apply pw_below_drewN | apply below_drew1) | exact HB.out)) hb); have n1_ := Aside0.mk (hbox); have n2_ := Aside0.mk ((by rw [hg]; exact (below_size (by repeat (first | (with_reducible first | exact HB.out | apply below_alloc | apply pw_below_drewN | apply below_drew1) | exact HB.out))) : w.heap.size ≤ gb259)); have n3_ := Aside0.mk ((by rw [hg]; exact (below_size (by repeat (first | (with_reducible first | exact HB.out | apply below_alloc | apply pw_below_drewN | apply below_drew1) | exact HB.out))) : w.heap.size ≤ gb259)); clear HB; have HB := n0_; have BK259 := n1_; have GW259 := n2_; have GE259 := n3_; clear n0_ n1_ n2_ n3_; clear hb hbox hg) | ((with_reducible refine gate_dst (N := 3) rfl ?_); refine box_event ?hg (N := 3) ?hd (cs := #[.int .u32 a1_0, .int .u8 a1_1, .int .i64 a1_2, .int .i64 a1_3]) (t := 27) ?hr ?_; (case hd => rfl); (case hg => rfl); (case hr => first | (go_simp; done) | (go_simp; rfl)); intro gb260 hg w4 hbox hb; have n0_ := Aside0.mk (blk_below (g := gb259) (o := .cells #[.int .u32 a0_0, .int .u8 a0_1, .int .i64 a0_2, .int .i64 a0_3] 27 (0, 0)) (by (with_reducible repeat (first | refine blk_drewN ?_ _ | refine blk_drew ?_ | refine blk_alloc ?_ _)); exact BK259.out) hb); have n1_ := Aside0.mk (below_step (by repeat (first | (with_reducible first | exact HB.out | apply below_alloc | apply pw_below_drewN | apply below_drew1 | refine below_set ?_ GE259.out) | exact HB.out)) hb); have n2_ := Aside0.mk (hbox); have n3_ := Aside0.mk ((by rw [hg]; exact (below_size (by repeat (first | (with_reducible first | exact HB.out | apply below_alloc | apply pw_below_drewN | apply below_drew1 | refine below_set ?_ GE259.out) | exact HB.out))) : w.heap.size ≤ gb260)); have n4_ := Aside0.mk ((by rw [hg]; exact (below_size (by repeat (first | (with_reducible first | exact HB.out | apply below_alloc | apply pw_below_drewN | apply below_drew1 | refine below_set ?_ GE259.out) | exact HB.out))) : w.heap.size ≤ gb260)); have n5_ := Aside0.mk ((by rw [hg]; exact Nat.ne_of_lt (blk_lt (g := gb259) (o := .cells #[.int .u32 a0_0, .int .u8 a0_1, .int .i64 a0_2, .int .i64 a0_3] 27 (0, 0)) (by (with_reducible repeat (first | refine blk_drewN ?_ _ | refine blk_drew ?_ | refine blk_alloc ?_ _)); exact BK259.out)) : gb259 ≠ gb260)); have n6_ := Aside0.mk ((by rw [hg]; exact Nat.ne_of_gt (blk_lt (g := gb259) (o := .cells #[.int .u32 a0_0, .int .u8 a0_1, .int .i64 a0_2, .int .i64 a0_3] 27 (0, 0)) (by (with_reducible repeat (first | refine blk_drewN ?_ _ | refine blk_drew ?_ | refine blk_alloc ?_ _)); exact BK259.out)) : gb260 ≠ gb259)); clear BK259; clear HB; have BK259 := n0_; have HB := n1_; have BK260 := n2_; have GW260 := n3_; have GE260 := n4_; have NB259_260 := n5_; have NB260_259 := n6_; clear n0_ n1_ n2_ n3_ n4_ n5_ n6_; clear hb hbox hg))
  go_loopg [5, 6, 7] k (fun kq v5 v6 v7 w' => ∃ (x5_1 : Bool) (x6_1 : Bool) (x7_1 : Int), v5 = .bool x5_1 ∧ v6 = .bool x6_1 ∧ v7 = .int .i64 x7_1 ∧ Aside0 (horariumref09_SameDay.l0 kq x5_1 x6_1 x7_1 a0_0 a0_1 a0_2 a0_3 a1_0 a1_1 a1_2 a1_3 = some r) ∧ Aside0 (kq ≤ k) ∧ Aside0 (w'.heap[gb259]? = some (.cells #[.int .u32 a0_0, .int .u8 a0_1, .int .i64 a0_2, .int .i64 a0_3] 27 (0, 0))) ∧ Aside0 (w'.heap[gb260]? = some (.cells #[.int .u32 a1_0, .int .u8 a1_1, .int .i64 a1_2, .int .i64 a1_3] 27 (0, 0))) ∧ Aside0 (Below w.heap.size w w'))
  case atStart => exact ⟨(false), (false), (0), (by first | rfl | (simp; done) | (simp [*]; done)), (by first | rfl | (simp; done) | (simp [*]; done)), (by first | rfl | (simp; done) | (simp [*]; done)), H', ⟨Nat.le_refl _⟩, ⟨by (with_reducible repeat (first | refine blk_drewN ?_ _ | refine blk_drew ?_ | refine blk_alloc ?_ _)); exact BK259.out⟩, ⟨by (with_reducible repeat (first | refine blk_drewN ?_ _ | refine blk_drew ?_ | refine blk_alloc ?_ _)); exact BK260.out⟩, ⟨by repeat (first | (with_reducible first | exact HB.out | apply below_alloc | apply pw_below_drewN | apply below_drew1 | refine below_set ?_ GE259.out | refine below_set ?_ GE260.out) | exact HB.out)⟩⟩
  case round =>
    clear H'
    try clear p2
    obtain ⟨x5_1, x6_1, x7_1, rfl, rfl, rfl, HA, HK1, BK259, BK260, HB⟩ := hrel
    cases gk with
    | zero => exact absurd HA.out (by simp [horariumref09_SameDay.l0])
    | succ k1 =>
      have H := HA.out
      clear HA
      simp only [horariumref09_SameDay.l0] at H
      by_cases c5 : x7_1 < 32
      · rw [if_pos c5] at H
        have c5b0 : decide (x7_1 < 32) = true := decide_eq_true c5
        clear c5
        by_cases c6 : x5_1 = true
        · subst c6
          have H1 : (if x6_1 = true then (horariumref09_SameDay.l0 k1 true true (wrap64 (x7_1 + 1)) a0_0 a0_1 a0_2 a0_3 a1_0 a1_1 a1_2 a1_3) else (if x7_1 < 8 then ((horariumref09_bit.f ((a0_1) % 4294967296) x7_1).bind fun t263 => (if t263 = true then ((horariumref09_bit.f ((a1_1) % 4294967296) x7_1).bind fun t264 => (horariumref09_SameDay.l0 k1 true t264 (wrap64 (x7_1 + 1)) a0_0 a0_1 a0_2 a0_3 a1_0 a1_1 a1_2 a1_3)) else (horariumref09_SameDay.l0 k1 true false (wrap64 (x7_1 + 1)) a0_0 a0_1 a0_2 a0_3 a1_0 a1_1 a1_2 a1_3))) else (horariumref09_SameDay.l0 k1 true false (wrap64 (x7_1 + 1)) a0_0 a0_1 a0_2 a0_3 a1_0 a1_1 a1_2 a1_3))) = some r := by rw [if_pos rfl] at H; exact H
          clear H
          have H := H1
          clear H1
          by_cases c7 : x6_1 = true
          · subst c7
            have H1 : (horariumref09_SameDay.l0 k1 true true (wrap64 (x7_1 + 1)) a0_0 a0_1 a0_2 a0_3 a1_0 a1_1 a1_2 a1_3) = some r := by rw [if_pos rfl] at H; exact H
            clear H
            have H := H1
            clear H1
            have H' := Aside0.mk H
            clear H
            go_wp2
            go_roundg k1
            case measure => have := HK1.out; omega
            case rel => exact ⟨(true), (true), (wrap64 (x7_1 + 1)), (by first | rfl | (simp; done) | (simp [*]; done)), (by first | rfl | (simp; done) | (simp [*]; done)), (by first | rfl | (simp; done) | (simp [*]; done)), H', ⟨by have := HK1.out; omega⟩, ⟨by (with_reducible repeat (first | refine blk_drewN ?_ _ | refine blk_drew ?_ | refine blk_alloc ?_ _)); exact BK259.out⟩, ⟨by (with_reducible repeat (first | refine blk_drewN ?_ _ | refine blk_drew ?_ | refine blk_alloc ?_ _)); exact BK260.out⟩, ⟨by repeat (first | (with_reducible first | exact HB.out | apply below_alloc | apply pw_below_drewN | apply below_drew1 | refine below_set ?_ GE259.out | refine below_set ?_ GE260.out) | exact HB.out)⟩⟩
          · replace c7 := Bool.eq_false_iff.mpr c7
            subst c7
            have H1 : (if x7_1 < 8 then ((horariumref09_bit.f ((a0_1) % 4294967296) x7_1).bind fun t263 => (if t263 = true then ((horariumref09_bit.f ((a1_1) % 4294967296) x7_1).bind fun t264 => (horariumref09_SameDay.l0 k1 true t264 (wrap64 (x7_1 + 1)) a0_0 a0_1 a0_2 a0_3 a1_0 a1_1 a1_2 a1_3)) else (horariumref09_SameDay.l0 k1 true false (wrap64 (x7_1 + 1)) a0_0 a0_1 a0_2 a0_3 a1_0 a1_1 a1_2 a1_3))) else (horariumref09_SameDay.l0 k1 true false (wrap64 (x7_1 + 1)) a0_0 a0_1 a0_2 a0_3 a1_0 a1_1 a1_2 a1_3)) = some r := by rw [if_neg (show ¬ (false = true) by decide)] at H; exact H
            clear H
            have H := H1
            clear H1
            by_cases c8 : x7_1 < 8
            · rw [if_pos c8] at H
              have c8b0 : decide (x7_1 < 8) = true := decide_eq_true c8
              clear c8
              replace H := Option.bind_eq_some_iff.mp H
              obtain ⟨t263, A90, H⟩ := H
              replace H : (if t263 = true then ((horariumref09_bit.f ((a1_1) % 4294967296) x7_1).bind fun t264 => (horariumref09_SameDay.l0 k1 true t264 (wrap64 (x7_1 + 1)) a0_0 a0_1 a0_2 a0_3 a1_0 a1_1 a1_2 a1_3)) else (horariumref09_SameDay.l0 k1 true false (wrap64 (x7_1 + 1)) a0_0 a0_1 a0_2 a0_3 a1_0 a1_1 a1_2 a1_3)) = some r := H
              have A9 := Aside0.mk A90
              clear A90
              by_cases c10 : t263 = true
              · subst c10
                have H1 : ((horariumref09_bit.f ((a1_1) % 4294967296) x7_1).bind fun t264 => (horariumref09_SameDay.l0 k1 true t264 (wrap64 (x7_1 + 1)) a0_0 a0_1 a0_2 a0_3 a1_0 a1_1 a1_2 a1_3)) = some r := by rw [if_pos rfl] at H; exact H
                clear H
                have H := H1
                clear H1
                replace H := Option.bind_eq_some_iff.mp H
                obtain ⟨t264, A110, H⟩ := H
                replace H : (horariumref09_SameDay.l0 k1 true t264 (wrap64 (x7_1 + 1)) a0_0 a0_1 a0_2 a0_3 a1_0 a1_1 a1_2 a1_3) = some r := H
                have A11 := Aside0.mk A110
                clear A110
                have H' := Aside0.mk H
                clear H
                have hnb12 := NB259_260.out
                have hnc12 := NB260_259.out
                have hcz13_0 : wr.cell? ⟨gb259, 0, none⟩ = some (.int .u32 a0_0) := (blk_cell BK259.out 0).trans rfl
                have hcz13_1 : wr.cell? ⟨gb259, 1, none⟩ = some (.int .u8 a0_1) := (blk_cell BK259.out 1).trans rfl
                have hcz13_2 : wr.cell? ⟨gb259, 2, none⟩ = some (.int .i64 a0_2) := (blk_cell BK259.out 2).trans rfl
                have hcz13_3 : wr.cell? ⟨gb259, 3, none⟩ = some (.int .i64 a0_3) := (blk_cell BK259.out 3).trans rfl
                have hfz13_0 := blk_frozen BK259.out 0
                have hfz13_1 := blk_frozen BK259.out 1
                have hfz13_2 := blk_frozen BK259.out 2
                have hfz13_3 := blk_frozen BK259.out 3
                go_wp2_with (first | (go_at_call 61; (with_reducible refine (horariumref09_bit.calls ((a0_1) % 4294967296) x7_1 true _ A9.out).mono ?_); rintro e w' ⟨rfl, ⟨nd, rfl⟩⟩; have hcz14_0 : wr.cell? ⟨gb260, 0, none⟩ = some (.int .u32 a1_0) := (blk_cell BK260.out 0).trans rfl; have hcz14_1 : wr.cell? ⟨gb260, 1, none⟩ = some (.int .u8 a1_1) := (blk_cell BK260.out 1).trans rfl; have hcz14_2 : wr.cell? ⟨gb260, 2, none⟩ = some (.int .i64 a1_2) := (blk_cell BK260.out 2).trans rfl; have hcz14_3 : wr.cell? ⟨gb260, 3, none⟩ = some (.int .i64 a1_3) := (blk_cell BK260.out 3).trans rfl; have hfz14_0 := blk_frozen BK260.out 0; have hfz14_1 := blk_frozen BK260.out 1; have hfz14_2 := blk_frozen BK260.out 2; have hfz14_3 := blk_frozen BK260.out 3) | (go_at_call 61; (with_reducible refine (horariumref09_bit.calls ((a1_1) % 4294967296) x7_1 t264 _ A11.out).mono ?_); rintro e w' ⟨rfl, ⟨nd, rfl⟩⟩))
                go_roundg k1
                case measure => have := HK1.out; omega
                case rel => exact ⟨(true), (t264), (wrap64 (x7_1 + 1)), (by first | rfl | (simp; done) | (simp [*]; done)), (by first | rfl | (simp; done) | (simp [*]; done)), (by first | rfl | (simp; done) | (simp [*]; done)), H', ⟨by have := HK1.out; omega⟩, ⟨by (with_reducible repeat (first | refine blk_drewN ?_ _ | refine blk_drew ?_ | refine blk_alloc ?_ _)); exact BK259.out⟩, ⟨by (with_reducible repeat (first | refine blk_drewN ?_ _ | refine blk_drew ?_ | refine blk_alloc ?_ _)); exact BK260.out⟩, ⟨by repeat (first | (with_reducible first | exact HB.out | apply below_alloc | apply pw_below_drewN | apply below_drew1 | refine below_set ?_ GE259.out | refine below_set ?_ GE260.out) | exact HB.out)⟩⟩
              · replace c10 := Bool.eq_false_iff.mpr c10
                subst c10
                have H1 : (horariumref09_SameDay.l0 k1 true false (wrap64 (x7_1 + 1)) a0_0 a0_1 a0_2 a0_3 a1_0 a1_1 a1_2 a1_3) = some r := by rw [if_neg (show ¬ (false = true) by decide)] at H; exact H
                clear H
                have H := H1
                clear H1
                have H' := Aside0.mk H
                clear H
                have hnb15 := NB259_260.out
                have hnc15 := NB260_259.out
                have hcz16_0 : wr.cell? ⟨gb259, 0, none⟩ = some (.int .u32 a0_0) := (blk_cell BK259.out 0).trans rfl
                have hcz16_1 : wr.cell? ⟨gb259, 1, none⟩ = some (.int .u8 a0_1) := (blk_cell BK259.out 1).trans rfl
                have hcz16_2 : wr.cell? ⟨gb259, 2, none⟩ = some (.int .i64 a0_2) := (blk_cell BK259.out 2).trans rfl
                have hcz16_3 : wr.cell? ⟨gb259, 3, none⟩ = some (.int .i64 a0_3) := (blk_cell BK259.out 3).trans rfl
                have hfz16_0 := blk_frozen BK259.out 0
                have hfz16_1 := blk_frozen BK259.out 1
                have hfz16_2 := blk_frozen BK259.out 2
                have hfz16_3 := blk_frozen BK259.out 3
                go_wp2_with (first | (go_at_call 61; (with_reducible refine (horariumref09_bit.calls ((a0_1) % 4294967296) x7_1 false _ A9.out).mono ?_); rintro e w' ⟨rfl, ⟨nd, rfl⟩⟩))
                go_roundg k1
                case measure => have := HK1.out; omega
                case rel => exact ⟨(true), (false), (wrap64 (x7_1 + 1)), (by first | rfl | (simp; done) | (simp [*]; done)), (by first | rfl | (simp; done) | (simp [*]; done)), (by first | rfl | (simp; done) | (simp [*]; done)), H', ⟨by have := HK1.out; omega⟩, ⟨by (with_reducible repeat (first | refine blk_drewN ?_ _ | refine blk_drew ?_ | refine blk_alloc ?_ _)); exact BK259.out⟩, ⟨by (with_reducible repeat (first | refine blk_drewN ?_ _ | refine blk_drew ?_ | refine blk_alloc ?_ _)); exact BK260.out⟩, ⟨by repeat (first | (with_reducible first | exact HB.out | apply below_alloc | apply pw_below_drewN | apply below_drew1 | refine below_set ?_ GE259.out | refine below_set ?_ GE260.out) | exact HB.out)⟩⟩
            · rw [if_neg c8] at H
              have c8b0 : decide (x7_1 < 8) = false := decide_eq_false c8
              clear c8
              have H' := Aside0.mk H
              clear H
              go_wp2
              go_roundg k1
              case measure => have := HK1.out; omega
              case rel => exact ⟨(true), (false), (wrap64 (x7_1 + 1)), (by first | rfl | (simp; done) | (simp [*]; done)), (by first | rfl | (simp; done) | (simp [*]; done)), (by first | rfl | (simp; done) | (simp [*]; done)), H', ⟨by have := HK1.out; omega⟩, ⟨by (with_reducible repeat (first | refine blk_drewN ?_ _ | refine blk_drew ?_ | refine blk_alloc ?_ _)); exact BK259.out⟩, ⟨by (with_reducible repeat (first | refine blk_drewN ?_ _ | refine blk_drew ?_ | refine blk_alloc ?_ _)); exact BK260.out⟩, ⟨by repeat (first | (with_reducible first | exact HB.out | apply below_alloc | apply pw_below_drewN | apply below_drew1 | refine below_set ?_ GE259.out | refine below_set ?_ GE260.out) | exact HB.out)⟩⟩
        · replace c6 := Bool.eq_false_iff.mpr c6
          subst c6
          have H1 : ((horariumref09_bit.f a0_0 x7_1).bind fun t265 => (if t265 = true then ((horariumref09_bit.f a1_0 x7_1).bind fun t266 => (if x6_1 = true then (horariumref09_SameDay.l0 k1 t266 true (wrap64 (x7_1 + 1)) a0_0 a0_1 a0_2 a0_3 a1_0 a1_1 a1_2 a1_3) else (if x7_1 < 8 then ((horariumref09_bit.f ((a0_1) % 4294967296) x7_1).bind fun t267 => (if t267 = true then ((horariumref09_bit.f ((a1_1) % 4294967296) x7_1).bind fun t268 => (horariumref09_SameDay.l0 k1 t266 t268 (wrap64 (x7_1 + 1)) a0_0 a0_1 a0_2 a0_3 a1_0 a1_1 a1_2 a1_3)) else (horariumref09_SameDay.l0 k1 t266 false (wrap64 (x7_1 + 1)) a0_0 a0_1 a0_2 a0_3 a1_0 a1_1 a1_2 a1_3))) else (horariumref09_SameDay.l0 k1 t266 false (wrap64 (x7_1 + 1)) a0_0 a0_1 a0_2 a0_3 a1_0 a1_1 a1_2 a1_3)))) else (if x6_1 = true then (horariumref09_SameDay.l0 k1 false true (wrap64 (x7_1 + 1)) a0_0 a0_1 a0_2 a0_3 a1_0 a1_1 a1_2 a1_3) else (if x7_1 < 8 then ((horariumref09_bit.f ((a0_1) % 4294967296) x7_1).bind fun t269 => (if t269 = true then ((horariumref09_bit.f ((a1_1) % 4294967296) x7_1).bind fun t270 => (horariumref09_SameDay.l0 k1 false t270 (wrap64 (x7_1 + 1)) a0_0 a0_1 a0_2 a0_3 a1_0 a1_1 a1_2 a1_3)) else (horariumref09_SameDay.l0 k1 false false (wrap64 (x7_1 + 1)) a0_0 a0_1 a0_2 a0_3 a1_0 a1_1 a1_2 a1_3))) else (horariumref09_SameDay.l0 k1 false false (wrap64 (x7_1 + 1)) a0_0 a0_1 a0_2 a0_3 a1_0 a1_1 a1_2 a1_3))))) = some r := by rw [if_neg (show ¬ (false = true) by decide)] at H; exact H
          clear H
          have H := H1
          clear H1
          replace H := Option.bind_eq_some_iff.mp H
          obtain ⟨t265, A170, H⟩ := H
          replace H : (if t265 = true then ((horariumref09_bit.f a1_0 x7_1).bind fun t266 => (if x6_1 = true then (horariumref09_SameDay.l0 k1 t266 true (wrap64 (x7_1 + 1)) a0_0 a0_1 a0_2 a0_3 a1_0 a1_1 a1_2 a1_3) else (if x7_1 < 8 then ((horariumref09_bit.f ((a0_1) % 4294967296) x7_1).bind fun t267 => (if t267 = true then ((horariumref09_bit.f ((a1_1) % 4294967296) x7_1).bind fun t268 => (horariumref09_SameDay.l0 k1 t266 t268 (wrap64 (x7_1 + 1)) a0_0 a0_1 a0_2 a0_3 a1_0 a1_1 a1_2 a1_3)) else (horariumref09_SameDay.l0 k1 t266 false (wrap64 (x7_1 + 1)) a0_0 a0_1 a0_2 a0_3 a1_0 a1_1 a1_2 a1_3))) else (horariumref09_SameDay.l0 k1 t266 false (wrap64 (x7_1 + 1)) a0_0 a0_1 a0_2 a0_3 a1_0 a1_1 a1_2 a1_3)))) else (if x6_1 = true then (horariumref09_SameDay.l0 k1 false true (wrap64 (x7_1 + 1)) a0_0 a0_1 a0_2 a0_3 a1_0 a1_1 a1_2 a1_3) else (if x7_1 < 8 then ((horariumref09_bit.f ((a0_1) % 4294967296) x7_1).bind fun t269 => (if t269 = true then ((horariumref09_bit.f ((a1_1) % 4294967296) x7_1).bind fun t270 => (horariumref09_SameDay.l0 k1 false t270 (wrap64 (x7_1 + 1)) a0_0 a0_1 a0_2 a0_3 a1_0 a1_1 a1_2 a1_3)) else (horariumref09_SameDay.l0 k1 false false (wrap64 (x7_1 + 1)) a0_0 a0_1 a0_2 a0_3 a1_0 a1_1 a1_2 a1_3))) else (horariumref09_SameDay.l0 k1 false false (wrap64 (x7_1 + 1)) a0_0 a0_1 a0_2 a0_3 a1_0 a1_1 a1_2 a1_3)))) = some r := H
          have A17 := Aside0.mk A170
          clear A170
          by_cases c18 : t265 = true
          · subst c18
            have H1 : ((horariumref09_bit.f a1_0 x7_1).bind fun t266 => (if x6_1 = true then (horariumref09_SameDay.l0 k1 t266 true (wrap64 (x7_1 + 1)) a0_0 a0_1 a0_2 a0_3 a1_0 a1_1 a1_2 a1_3) else (if x7_1 < 8 then ((horariumref09_bit.f ((a0_1) % 4294967296) x7_1).bind fun t267 => (if t267 = true then ((horariumref09_bit.f ((a1_1) % 4294967296) x7_1).bind fun t268 => (horariumref09_SameDay.l0 k1 t266 t268 (wrap64 (x7_1 + 1)) a0_0 a0_1 a0_2 a0_3 a1_0 a1_1 a1_2 a1_3)) else (horariumref09_SameDay.l0 k1 t266 false (wrap64 (x7_1 + 1)) a0_0 a0_1 a0_2 a0_3 a1_0 a1_1 a1_2 a1_3))) else (horariumref09_SameDay.l0 k1 t266 false (wrap64 (x7_1 + 1)) a0_0 a0_1 a0_2 a0_3 a1_0 a1_1 a1_2 a1_3)))) = some r := by rw [if_pos rfl] at H; exact H
            clear H
            have H := H1
            clear H1
            replace H := Option.bind_eq_some_iff.mp H
            obtain ⟨t266, A190, H⟩ := H
            replace H : (if x6_1 = true then (horariumref09_SameDay.l0 k1 t266 true (wrap64 (x7_1 + 1)) a0_0 a0_1 a0_2 a0_3 a1_0 a1_1 a1_2 a1_3) else (if x7_1 < 8 then ((horariumref09_bit.f ((a0_1) % 4294967296) x7_1).bind fun t267 => (if t267 = true then ((horariumref09_bit.f ((a1_1) % 4294967296) x7_1).bind fun t268 => (horariumref09_SameDay.l0 k1 t266 t268 (wrap64 (x7_1 + 1)) a0_0 a0_1 a0_2 a0_3 a1_0 a1_1 a1_2 a1_3)) else (horariumref09_SameDay.l0 k1 t266 false (wrap64 (x7_1 + 1)) a0_0 a0_1 a0_2 a0_3 a1_0 a1_1 a1_2 a1_3))) else (horariumref09_SameDay.l0 k1 t266 false (wrap64 (x7_1 + 1)) a0_0 a0_1 a0_2 a0_3 a1_0 a1_1 a1_2 a1_3))) = some r := H
            have A19 := Aside0.mk A190
            clear A190
            by_cases c20 : x6_1 = true
            · subst c20
              have H1 : (horariumref09_SameDay.l0 k1 t266 true (wrap64 (x7_1 + 1)) a0_0 a0_1 a0_2 a0_3 a1_0 a1_1 a1_2 a1_3) = some r := by rw [if_pos rfl] at H; exact H
              clear H
              have H := H1
              clear H1
              have H' := Aside0.mk H
              clear H
              have hnb21 := NB259_260.out
              have hnc21 := NB260_259.out
              have hcz22_0 : wr.cell? ⟨gb259, 0, none⟩ = some (.int .u32 a0_0) := (blk_cell BK259.out 0).trans rfl
              have hcz22_1 : wr.cell? ⟨gb259, 1, none⟩ = some (.int .u8 a0_1) := (blk_cell BK259.out 1).trans rfl
              have hcz22_2 : wr.cell? ⟨gb259, 2, none⟩ = some (.int .i64 a0_2) := (blk_cell BK259.out 2).trans rfl
              have hcz22_3 : wr.cell? ⟨gb259, 3, none⟩ = some (.int .i64 a0_3) := (blk_cell BK259.out 3).trans rfl
              have hfz22_0 := blk_frozen BK259.out 0
              have hfz22_1 := blk_frozen BK259.out 1
              have hfz22_2 := blk_frozen BK259.out 2
              have hfz22_3 := blk_frozen BK259.out 3
              go_wp2_with (first | (go_at_call 61; (with_reducible refine (horariumref09_bit.calls a0_0 x7_1 true _ A17.out).mono ?_); rintro e w' ⟨rfl, ⟨nd, rfl⟩⟩; have hcz23_0 : wr.cell? ⟨gb260, 0, none⟩ = some (.int .u32 a1_0) := (blk_cell BK260.out 0).trans rfl; have hcz23_1 : wr.cell? ⟨gb260, 1, none⟩ = some (.int .u8 a1_1) := (blk_cell BK260.out 1).trans rfl; have hcz23_2 : wr.cell? ⟨gb260, 2, none⟩ = some (.int .i64 a1_2) := (blk_cell BK260.out 2).trans rfl; have hcz23_3 : wr.cell? ⟨gb260, 3, none⟩ = some (.int .i64 a1_3) := (blk_cell BK260.out 3).trans rfl; have hfz23_0 := blk_frozen BK260.out 0; have hfz23_1 := blk_frozen BK260.out 1; have hfz23_2 := blk_frozen BK260.out 2; have hfz23_3 := blk_frozen BK260.out 3) | (go_at_call 61; (with_reducible refine (horariumref09_bit.calls a1_0 x7_1 t266 _ A19.out).mono ?_); rintro e w' ⟨rfl, ⟨nd, rfl⟩⟩))
              go_roundg k1
              case measure => have := HK1.out; omega
              case rel => exact ⟨(t266), (true), (wrap64 (x7_1 + 1)), (by first | rfl | (simp; done) | (simp [*]; done)), (by first | rfl | (simp; done) | (simp [*]; done)), (by first | rfl | (simp; done) | (simp [*]; done)), H', ⟨by have := HK1.out; omega⟩, ⟨by (with_reducible repeat (first | refine blk_drewN ?_ _ | refine blk_drew ?_ | refine blk_alloc ?_ _)); exact BK259.out⟩, ⟨by (with_reducible repeat (first | refine blk_drewN ?_ _ | refine blk_drew ?_ | refine blk_alloc ?_ _)); exact BK260.out⟩, ⟨by repeat (first | (with_reducible first | exact HB.out | apply below_alloc | apply pw_below_drewN | apply below_drew1 | refine below_set ?_ GE259.out | refine below_set ?_ GE260.out) | exact HB.out)⟩⟩
            · replace c20 := Bool.eq_false_iff.mpr c20
              subst c20
              have H1 : (if x7_1 < 8 then ((horariumref09_bit.f ((a0_1) % 4294967296) x7_1).bind fun t267 => (if t267 = true then ((horariumref09_bit.f ((a1_1) % 4294967296) x7_1).bind fun t268 => (horariumref09_SameDay.l0 k1 t266 t268 (wrap64 (x7_1 + 1)) a0_0 a0_1 a0_2 a0_3 a1_0 a1_1 a1_2 a1_3)) else (horariumref09_SameDay.l0 k1 t266 false (wrap64 (x7_1 + 1)) a0_0 a0_1 a0_2 a0_3 a1_0 a1_1 a1_2 a1_3))) else (horariumref09_SameDay.l0 k1 t266 false (wrap64 (x7_1 + 1)) a0_0 a0_1 a0_2 a0_3 a1_0 a1_1 a1_2 a1_3)) = some r := by rw [if_neg (show ¬ (false = true) by decide)] at H; exact H
              clear H
              have H := H1
              clear H1
              by_cases c24 : x7_1 < 8
              · rw [if_pos c24] at H
                have c24b0 : decide (x7_1 < 8) = true := decide_eq_true c24
                clear c24
                replace H := Option.bind_eq_some_iff.mp H
                obtain ⟨t267, A250, H⟩ := H
                replace H : (if t267 = true then ((horariumref09_bit.f ((a1_1) % 4294967296) x7_1).bind fun t268 => (horariumref09_SameDay.l0 k1 t266 t268 (wrap64 (x7_1 + 1)) a0_0 a0_1 a0_2 a0_3 a1_0 a1_1 a1_2 a1_3)) else (horariumref09_SameDay.l0 k1 t266 false (wrap64 (x7_1 + 1)) a0_0 a0_1 a0_2 a0_3 a1_0 a1_1 a1_2 a1_3)) = some r := H
                have A25 := Aside0.mk A250
                clear A250
                by_cases c26 : t267 = true
                · subst c26
                  have H1 : ((horariumref09_bit.f ((a1_1) % 4294967296) x7_1).bind fun t268 => (horariumref09_SameDay.l0 k1 t266 t268 (wrap64 (x7_1 + 1)) a0_0 a0_1 a0_2 a0_3 a1_0 a1_1 a1_2 a1_3)) = some r := by rw [if_pos rfl] at H; exact H
                  clear H
                  have H := H1
                  clear H1
                  replace H := Option.bind_eq_some_iff.mp H
                  obtain ⟨t268, A270, H⟩ := H
                  replace H : (horariumref09_SameDay.l0 k1 t266 t268 (wrap64 (x7_1 + 1)) a0_0 a0_1 a0_2 a0_3 a1_0 a1_1 a1_2 a1_3) = some r := H
                  have A27 := Aside0.mk A270
                  clear A270
                  have H' := Aside0.mk H
                  clear H
                  have hnb28 := NB259_260.out
                  have hnc28 := NB260_259.out
                  have hcz29_0 : wr.cell? ⟨gb259, 0, none⟩ = some (.int .u32 a0_0) := (blk_cell BK259.out 0).trans rfl
                  have hcz29_1 : wr.cell? ⟨gb259, 1, none⟩ = some (.int .u8 a0_1) := (blk_cell BK259.out 1).trans rfl
                  have hcz29_2 : wr.cell? ⟨gb259, 2, none⟩ = some (.int .i64 a0_2) := (blk_cell BK259.out 2).trans rfl
                  have hcz29_3 : wr.cell? ⟨gb259, 3, none⟩ = some (.int .i64 a0_3) := (blk_cell BK259.out 3).trans rfl
                  have hfz29_0 := blk_frozen BK259.out 0
                  have hfz29_1 := blk_frozen BK259.out 1
                  have hfz29_2 := blk_frozen BK259.out 2
                  have hfz29_3 := blk_frozen BK259.out 3
                  go_wp2_with (first | (go_at_call 61; (with_reducible refine (horariumref09_bit.calls a0_0 x7_1 true _ A17.out).mono ?_); rintro e w' ⟨rfl, ⟨nd, rfl⟩⟩; have hcz30_0 : wr.cell? ⟨gb260, 0, none⟩ = some (.int .u32 a1_0) := (blk_cell BK260.out 0).trans rfl; have hcz30_1 : wr.cell? ⟨gb260, 1, none⟩ = some (.int .u8 a1_1) := (blk_cell BK260.out 1).trans rfl; have hcz30_2 : wr.cell? ⟨gb260, 2, none⟩ = some (.int .i64 a1_2) := (blk_cell BK260.out 2).trans rfl; have hcz30_3 : wr.cell? ⟨gb260, 3, none⟩ = some (.int .i64 a1_3) := (blk_cell BK260.out 3).trans rfl; have hfz30_0 := blk_frozen BK260.out 0; have hfz30_1 := blk_frozen BK260.out 1; have hfz30_2 := blk_frozen BK260.out 2; have hfz30_3 := blk_frozen BK260.out 3) | (go_at_call 61; (with_reducible refine (horariumref09_bit.calls a1_0 x7_1 t266 _ A19.out).mono ?_); rintro e w' ⟨rfl, ⟨nd, rfl⟩⟩) | (go_at_call 61; (with_reducible refine (horariumref09_bit.calls ((a0_1) % 4294967296) x7_1 true _ A25.out).mono ?_); rintro e w' ⟨rfl, ⟨nd, rfl⟩⟩) | (go_at_call 61; (with_reducible refine (horariumref09_bit.calls ((a1_1) % 4294967296) x7_1 t268 _ A27.out).mono ?_); rintro e w' ⟨rfl, ⟨nd, rfl⟩⟩))
                  go_roundg k1
                  case measure => have := HK1.out; omega
                  case rel => exact ⟨(t266), (t268), (wrap64 (x7_1 + 1)), (by first | rfl | (simp; done) | (simp [*]; done)), (by first | rfl | (simp; done) | (simp [*]; done)), (by first | rfl | (simp; done) | (simp [*]; done)), H', ⟨by have := HK1.out; omega⟩, ⟨by (with_reducible repeat (first | refine blk_drewN ?_ _ | refine blk_drew ?_ | refine blk_alloc ?_ _)); exact BK259.out⟩, ⟨by (with_reducible repeat (first | refine blk_drewN ?_ _ | refine blk_drew ?_ | refine blk_alloc ?_ _)); exact BK260.out⟩, ⟨by repeat (first | (with_reducible first | exact HB.out | apply below_alloc | apply pw_below_drewN | apply below_drew1 | refine below_set ?_ GE259.out | refine below_set ?_ GE260.out) | exact HB.out)⟩⟩
                · replace c26 := Bool.eq_false_iff.mpr c26
                  subst c26
                  have H1 : (horariumref09_SameDay.l0 k1 t266 false (wrap64 (x7_1 + 1)) a0_0 a0_1 a0_2 a0_3 a1_0 a1_1 a1_2 a1_3) = some r := by rw [if_neg (show ¬ (false = true) by decide)] at H; exact H
                  clear H
                  have H := H1
                  clear H1
                  have H' := Aside0.mk H
                  clear H
                  have hnb31 := NB259_260.out
                  have hnc31 := NB260_259.out
                  have hcz32_0 : wr.cell? ⟨gb259, 0, none⟩ = some (.int .u32 a0_0) := (blk_cell BK259.out 0).trans rfl
                  have hcz32_1 : wr.cell? ⟨gb259, 1, none⟩ = some (.int .u8 a0_1) := (blk_cell BK259.out 1).trans rfl
                  have hcz32_2 : wr.cell? ⟨gb259, 2, none⟩ = some (.int .i64 a0_2) := (blk_cell BK259.out 2).trans rfl
                  have hcz32_3 : wr.cell? ⟨gb259, 3, none⟩ = some (.int .i64 a0_3) := (blk_cell BK259.out 3).trans rfl
                  have hfz32_0 := blk_frozen BK259.out 0
                  have hfz32_1 := blk_frozen BK259.out 1
                  have hfz32_2 := blk_frozen BK259.out 2
                  have hfz32_3 := blk_frozen BK259.out 3
                  go_wp2_with (first | (go_at_call 61; (with_reducible refine (horariumref09_bit.calls a0_0 x7_1 true _ A17.out).mono ?_); rintro e w' ⟨rfl, ⟨nd, rfl⟩⟩; have hcz33_0 : wr.cell? ⟨gb260, 0, none⟩ = some (.int .u32 a1_0) := (blk_cell BK260.out 0).trans rfl; have hcz33_1 : wr.cell? ⟨gb260, 1, none⟩ = some (.int .u8 a1_1) := (blk_cell BK260.out 1).trans rfl; have hcz33_2 : wr.cell? ⟨gb260, 2, none⟩ = some (.int .i64 a1_2) := (blk_cell BK260.out 2).trans rfl; have hcz33_3 : wr.cell? ⟨gb260, 3, none⟩ = some (.int .i64 a1_3) := (blk_cell BK260.out 3).trans rfl; have hfz33_0 := blk_frozen BK260.out 0; have hfz33_1 := blk_frozen BK260.out 1; have hfz33_2 := blk_frozen BK260.out 2; have hfz33_3 := blk_frozen BK260.out 3) | (go_at_call 61; (with_reducible refine (horariumref09_bit.calls a1_0 x7_1 t266 _ A19.out).mono ?_); rintro e w' ⟨rfl, ⟨nd, rfl⟩⟩) | (go_at_call 61; (with_reducible refine (horariumref09_bit.calls ((a0_1) % 4294967296) x7_1 false _ A25.out).mono ?_); rintro e w' ⟨rfl, ⟨nd, rfl⟩⟩))
                  go_roundg k1
                  case measure => have := HK1.out; omega
                  case rel => exact ⟨(t266), (false), (wrap64 (x7_1 + 1)), (by first | rfl | (simp; done) | (simp [*]; done)), (by first | rfl | (simp; done) | (simp [*]; done)), (by first | rfl | (simp; done) | (simp [*]; done)), H', ⟨by have := HK1.out; omega⟩, ⟨by (with_reducible repeat (first | refine blk_drewN ?_ _ | refine blk_drew ?_ | refine blk_alloc ?_ _)); exact BK259.out⟩, ⟨by (with_reducible repeat (first | refine blk_drewN ?_ _ | refine blk_drew ?_ | refine blk_alloc ?_ _)); exact BK260.out⟩, ⟨by repeat (first | (with_reducible first | exact HB.out | apply below_alloc | apply pw_below_drewN | apply below_drew1 | refine below_set ?_ GE259.out | refine below_set ?_ GE260.out) | exact HB.out)⟩⟩
              · rw [if_neg c24] at H
                have c24b0 : decide (x7_1 < 8) = false := decide_eq_false c24
                clear c24
                have H' := Aside0.mk H
                clear H
                have hnb34 := NB259_260.out
                have hnc34 := NB260_259.out
                have hcz35_0 : wr.cell? ⟨gb259, 0, none⟩ = some (.int .u32 a0_0) := (blk_cell BK259.out 0).trans rfl
                have hcz35_1 : wr.cell? ⟨gb259, 1, none⟩ = some (.int .u8 a0_1) := (blk_cell BK259.out 1).trans rfl
                have hcz35_2 : wr.cell? ⟨gb259, 2, none⟩ = some (.int .i64 a0_2) := (blk_cell BK259.out 2).trans rfl
                have hcz35_3 : wr.cell? ⟨gb259, 3, none⟩ = some (.int .i64 a0_3) := (blk_cell BK259.out 3).trans rfl
                have hfz35_0 := blk_frozen BK259.out 0
                have hfz35_1 := blk_frozen BK259.out 1
                have hfz35_2 := blk_frozen BK259.out 2
                have hfz35_3 := blk_frozen BK259.out 3
                go_wp2_with (first | (go_at_call 61; (with_reducible refine (horariumref09_bit.calls a0_0 x7_1 true _ A17.out).mono ?_); rintro e w' ⟨rfl, ⟨nd, rfl⟩⟩; have hcz36_0 : wr.cell? ⟨gb260, 0, none⟩ = some (.int .u32 a1_0) := (blk_cell BK260.out 0).trans rfl; have hcz36_1 : wr.cell? ⟨gb260, 1, none⟩ = some (.int .u8 a1_1) := (blk_cell BK260.out 1).trans rfl; have hcz36_2 : wr.cell? ⟨gb260, 2, none⟩ = some (.int .i64 a1_2) := (blk_cell BK260.out 2).trans rfl; have hcz36_3 : wr.cell? ⟨gb260, 3, none⟩ = some (.int .i64 a1_3) := (blk_cell BK260.out 3).trans rfl; have hfz36_0 := blk_frozen BK260.out 0; have hfz36_1 := blk_frozen BK260.out 1; have hfz36_2 := blk_frozen BK260.out 2; have hfz36_3 := blk_frozen BK260.out 3) | (go_at_call 61; (with_reducible refine (horariumref09_bit.calls a1_0 x7_1 t266 _ A19.out).mono ?_); rintro e w' ⟨rfl, ⟨nd, rfl⟩⟩))
                go_roundg k1
                case measure => have := HK1.out; omega
                case rel => exact ⟨(t266), (false), (wrap64 (x7_1 + 1)), (by first | rfl | (simp; done) | (simp [*]; done)), (by first | rfl | (simp; done) | (simp [*]; done)), (by first | rfl | (simp; done) | (simp [*]; done)), H', ⟨by have := HK1.out; omega⟩, ⟨by (with_reducible repeat (first | refine blk_drewN ?_ _ | refine blk_drew ?_ | refine blk_alloc ?_ _)); exact BK259.out⟩, ⟨by (with_reducible repeat (first | refine blk_drewN ?_ _ | refine blk_drew ?_ | refine blk_alloc ?_ _)); exact BK260.out⟩, ⟨by repeat (first | (with_reducible first | exact HB.out | apply below_alloc | apply pw_below_drewN | apply below_drew1 | refine below_set ?_ GE259.out | refine below_set ?_ GE260.out) | exact HB.out)⟩⟩
          · replace c18 := Bool.eq_false_iff.mpr c18
            subst c18
            have H1 : (if x6_1 = true then (horariumref09_SameDay.l0 k1 false true (wrap64 (x7_1 + 1)) a0_0 a0_1 a0_2 a0_3 a1_0 a1_1 a1_2 a1_3) else (if x7_1 < 8 then ((horariumref09_bit.f ((a0_1) % 4294967296) x7_1).bind fun t269 => (if t269 = true then ((horariumref09_bit.f ((a1_1) % 4294967296) x7_1).bind fun t270 => (horariumref09_SameDay.l0 k1 false t270 (wrap64 (x7_1 + 1)) a0_0 a0_1 a0_2 a0_3 a1_0 a1_1 a1_2 a1_3)) else (horariumref09_SameDay.l0 k1 false false (wrap64 (x7_1 + 1)) a0_0 a0_1 a0_2 a0_3 a1_0 a1_1 a1_2 a1_3))) else (horariumref09_SameDay.l0 k1 false false (wrap64 (x7_1 + 1)) a0_0 a0_1 a0_2 a0_3 a1_0 a1_1 a1_2 a1_3))) = some r := by rw [if_neg (show ¬ (false = true) by decide)] at H; exact H
            clear H
            have H := H1
            clear H1
            by_cases c37 : x6_1 = true
            · subst c37
              have H1 : (horariumref09_SameDay.l0 k1 false true (wrap64 (x7_1 + 1)) a0_0 a0_1 a0_2 a0_3 a1_0 a1_1 a1_2 a1_3) = some r := by rw [if_pos rfl] at H; exact H
              clear H
              have H := H1
              clear H1
              have H' := Aside0.mk H
              clear H
              have hnb38 := NB259_260.out
              have hnc38 := NB260_259.out
              have hcz39_0 : wr.cell? ⟨gb259, 0, none⟩ = some (.int .u32 a0_0) := (blk_cell BK259.out 0).trans rfl
              have hcz39_1 : wr.cell? ⟨gb259, 1, none⟩ = some (.int .u8 a0_1) := (blk_cell BK259.out 1).trans rfl
              have hcz39_2 : wr.cell? ⟨gb259, 2, none⟩ = some (.int .i64 a0_2) := (blk_cell BK259.out 2).trans rfl
              have hcz39_3 : wr.cell? ⟨gb259, 3, none⟩ = some (.int .i64 a0_3) := (blk_cell BK259.out 3).trans rfl
              have hfz39_0 := blk_frozen BK259.out 0
              have hfz39_1 := blk_frozen BK259.out 1
              have hfz39_2 := blk_frozen BK259.out 2
              have hfz39_3 := blk_frozen BK259.out 3
              go_wp2_with (first | (go_at_call 61; (with_reducible refine (horariumref09_bit.calls a0_0 x7_1 false _ A17.out).mono ?_); rintro e w' ⟨rfl, ⟨nd, rfl⟩⟩))
              go_roundg k1
              case measure => have := HK1.out; omega
              case rel => exact ⟨(false), (true), (wrap64 (x7_1 + 1)), (by first | rfl | (simp; done) | (simp [*]; done)), (by first | rfl | (simp; done) | (simp [*]; done)), (by first | rfl | (simp; done) | (simp [*]; done)), H', ⟨by have := HK1.out; omega⟩, ⟨by (with_reducible repeat (first | refine blk_drewN ?_ _ | refine blk_drew ?_ | refine blk_alloc ?_ _)); exact BK259.out⟩, ⟨by (with_reducible repeat (first | refine blk_drewN ?_ _ | refine blk_drew ?_ | refine blk_alloc ?_ _)); exact BK260.out⟩, ⟨by repeat (first | (with_reducible first | exact HB.out | apply below_alloc | apply pw_below_drewN | apply below_drew1 | refine below_set ?_ GE259.out | refine below_set ?_ GE260.out) | exact HB.out)⟩⟩
            · replace c37 := Bool.eq_false_iff.mpr c37
              subst c37
              have H1 : (if x7_1 < 8 then ((horariumref09_bit.f ((a0_1) % 4294967296) x7_1).bind fun t269 => (if t269 = true then ((horariumref09_bit.f ((a1_1) % 4294967296) x7_1).bind fun t270 => (horariumref09_SameDay.l0 k1 false t270 (wrap64 (x7_1 + 1)) a0_0 a0_1 a0_2 a0_3 a1_0 a1_1 a1_2 a1_3)) else (horariumref09_SameDay.l0 k1 false false (wrap64 (x7_1 + 1)) a0_0 a0_1 a0_2 a0_3 a1_0 a1_1 a1_2 a1_3))) else (horariumref09_SameDay.l0 k1 false false (wrap64 (x7_1 + 1)) a0_0 a0_1 a0_2 a0_3 a1_0 a1_1 a1_2 a1_3)) = some r := by rw [if_neg (show ¬ (false = true) by decide)] at H; exact H
              clear H
              have H := H1
              clear H1
              by_cases c40 : x7_1 < 8
              · rw [if_pos c40] at H
                have c40b0 : decide (x7_1 < 8) = true := decide_eq_true c40
                clear c40
                replace H := Option.bind_eq_some_iff.mp H
                obtain ⟨t269, A410, H⟩ := H
                replace H : (if t269 = true then ((horariumref09_bit.f ((a1_1) % 4294967296) x7_1).bind fun t270 => (horariumref09_SameDay.l0 k1 false t270 (wrap64 (x7_1 + 1)) a0_0 a0_1 a0_2 a0_3 a1_0 a1_1 a1_2 a1_3)) else (horariumref09_SameDay.l0 k1 false false (wrap64 (x7_1 + 1)) a0_0 a0_1 a0_2 a0_3 a1_0 a1_1 a1_2 a1_3)) = some r := H
                have A41 := Aside0.mk A410
                clear A410
                by_cases c42 : t269 = true
                · subst c42
                  have H1 : ((horariumref09_bit.f ((a1_1) % 4294967296) x7_1).bind fun t270 => (horariumref09_SameDay.l0 k1 false t270 (wrap64 (x7_1 + 1)) a0_0 a0_1 a0_2 a0_3 a1_0 a1_1 a1_2 a1_3)) = some r := by rw [if_pos rfl] at H; exact H
                  clear H
                  have H := H1
                  clear H1
                  replace H := Option.bind_eq_some_iff.mp H
                  obtain ⟨t270, A430, H⟩ := H
                  replace H : (horariumref09_SameDay.l0 k1 false t270 (wrap64 (x7_1 + 1)) a0_0 a0_1 a0_2 a0_3 a1_0 a1_1 a1_2 a1_3) = some r := H
                  have A43 := Aside0.mk A430
                  clear A430
                  have H' := Aside0.mk H
                  clear H
                  have hnb44 := NB259_260.out
                  have hnc44 := NB260_259.out
                  have hcz45_0 : wr.cell? ⟨gb259, 0, none⟩ = some (.int .u32 a0_0) := (blk_cell BK259.out 0).trans rfl
                  have hcz45_1 : wr.cell? ⟨gb259, 1, none⟩ = some (.int .u8 a0_1) := (blk_cell BK259.out 1).trans rfl
                  have hcz45_2 : wr.cell? ⟨gb259, 2, none⟩ = some (.int .i64 a0_2) := (blk_cell BK259.out 2).trans rfl
                  have hcz45_3 : wr.cell? ⟨gb259, 3, none⟩ = some (.int .i64 a0_3) := (blk_cell BK259.out 3).trans rfl
                  have hfz45_0 := blk_frozen BK259.out 0
                  have hfz45_1 := blk_frozen BK259.out 1
                  have hfz45_2 := blk_frozen BK259.out 2
                  have hfz45_3 := blk_frozen BK259.out 3
                  go_wp2_with (first | (go_at_call 61; (with_reducible refine (horariumref09_bit.calls a0_0 x7_1 false _ A17.out).mono ?_); rintro e w' ⟨rfl, ⟨nd, rfl⟩⟩) | (go_at_call 61; (with_reducible refine (horariumref09_bit.calls ((a0_1) % 4294967296) x7_1 true _ A41.out).mono ?_); rintro e w' ⟨rfl, ⟨nd, rfl⟩⟩; have hcz46_0 : wr.cell? ⟨gb260, 0, none⟩ = some (.int .u32 a1_0) := (blk_cell BK260.out 0).trans rfl; have hcz46_1 : wr.cell? ⟨gb260, 1, none⟩ = some (.int .u8 a1_1) := (blk_cell BK260.out 1).trans rfl; have hcz46_2 : wr.cell? ⟨gb260, 2, none⟩ = some (.int .i64 a1_2) := (blk_cell BK260.out 2).trans rfl; have hcz46_3 : wr.cell? ⟨gb260, 3, none⟩ = some (.int .i64 a1_3) := (blk_cell BK260.out 3).trans rfl; have hfz46_0 := blk_frozen BK260.out 0; have hfz46_1 := blk_frozen BK260.out 1; have hfz46_2 := blk_frozen BK260.out 2; have hfz46_3 := blk_frozen BK260.out 3) | (go_at_call 61; (with_reducible refine (horariumref09_bit.calls ((a1_1) % 4294967296) x7_1 t270 _ A43.out).mono ?_); rintro e w' ⟨rfl, ⟨nd, rfl⟩⟩))
                  go_roundg k1
                  case measure => have := HK1.out; omega
                  case rel => exact ⟨(false), (t270), (wrap64 (x7_1 + 1)), (by first | rfl | (simp; done) | (simp [*]; done)), (by first | rfl | (simp; done) | (simp [*]; done)), (by first | rfl | (simp; done) | (simp [*]; done)), H', ⟨by have := HK1.out; omega⟩, ⟨by (with_reducible repeat (first | refine blk_drewN ?_ _ | refine blk_drew ?_ | refine blk_alloc ?_ _)); exact BK259.out⟩, ⟨by (with_reducible repeat (first | refine blk_drewN ?_ _ | refine blk_drew ?_ | refine blk_alloc ?_ _)); exact BK260.out⟩, ⟨by repeat (first | (with_reducible first | exact HB.out | apply below_alloc | apply pw_below_drewN | apply below_drew1 | refine below_set ?_ GE259.out | refine below_set ?_ GE260.out) | exact HB.out)⟩⟩
                · replace c42 := Bool.eq_false_iff.mpr c42
                  subst c42
                  have H1 : (horariumref09_SameDay.l0 k1 false false (wrap64 (x7_1 + 1)) a0_0 a0_1 a0_2 a0_3 a1_0 a1_1 a1_2 a1_3) = some r := by rw [if_neg (show ¬ (false = true) by decide)] at H; exact H
                  clear H
                  have H := H1
                  clear H1
                  have H' := Aside0.mk H
                  clear H
                  have hnb47 := NB259_260.out
                  have hnc47 := NB260_259.out
                  have hcz48_0 : wr.cell? ⟨gb259, 0, none⟩ = some (.int .u32 a0_0) := (blk_cell BK259.out 0).trans rfl
                  have hcz48_1 : wr.cell? ⟨gb259, 1, none⟩ = some (.int .u8 a0_1) := (blk_cell BK259.out 1).trans rfl
                  have hcz48_2 : wr.cell? ⟨gb259, 2, none⟩ = some (.int .i64 a0_2) := (blk_cell BK259.out 2).trans rfl
                  have hcz48_3 : wr.cell? ⟨gb259, 3, none⟩ = some (.int .i64 a0_3) := (blk_cell BK259.out 3).trans rfl
                  have hfz48_0 := blk_frozen BK259.out 0
                  have hfz48_1 := blk_frozen BK259.out 1
                  have hfz48_2 := blk_frozen BK259.out 2
                  have hfz48_3 := blk_frozen BK259.out 3
                  go_wp2_with (first | (go_at_call 61; (with_reducible refine (horariumref09_bit.calls a0_0 x7_1 false _ A17.out).mono ?_); rintro e w' ⟨rfl, ⟨nd, rfl⟩⟩) | (go_at_call 61; (with_reducible refine (horariumref09_bit.calls ((a0_1) % 4294967296) x7_1 false _ A41.out).mono ?_); rintro e w' ⟨rfl, ⟨nd, rfl⟩⟩))
                  go_roundg k1
                  case measure => have := HK1.out; omega
                  case rel => exact ⟨(false), (false), (wrap64 (x7_1 + 1)), (by first | rfl | (simp; done) | (simp [*]; done)), (by first | rfl | (simp; done) | (simp [*]; done)), (by first | rfl | (simp; done) | (simp [*]; done)), H', ⟨by have := HK1.out; omega⟩, ⟨by (with_reducible repeat (first | refine blk_drewN ?_ _ | refine blk_drew ?_ | refine blk_alloc ?_ _)); exact BK259.out⟩, ⟨by (with_reducible repeat (first | refine blk_drewN ?_ _ | refine blk_drew ?_ | refine blk_alloc ?_ _)); exact BK260.out⟩, ⟨by repeat (first | (with_reducible first | exact HB.out | apply below_alloc | apply pw_below_drewN | apply below_drew1 | refine below_set ?_ GE259.out | refine below_set ?_ GE260.out) | exact HB.out)⟩⟩
              · rw [if_neg c40] at H
                have c40b0 : decide (x7_1 < 8) = false := decide_eq_false c40
                clear c40
                have H' := Aside0.mk H
                clear H
                have hnb49 := NB259_260.out
                have hnc49 := NB260_259.out
                have hcz50_0 : wr.cell? ⟨gb259, 0, none⟩ = some (.int .u32 a0_0) := (blk_cell BK259.out 0).trans rfl
                have hcz50_1 : wr.cell? ⟨gb259, 1, none⟩ = some (.int .u8 a0_1) := (blk_cell BK259.out 1).trans rfl
                have hcz50_2 : wr.cell? ⟨gb259, 2, none⟩ = some (.int .i64 a0_2) := (blk_cell BK259.out 2).trans rfl
                have hcz50_3 : wr.cell? ⟨gb259, 3, none⟩ = some (.int .i64 a0_3) := (blk_cell BK259.out 3).trans rfl
                have hfz50_0 := blk_frozen BK259.out 0
                have hfz50_1 := blk_frozen BK259.out 1
                have hfz50_2 := blk_frozen BK259.out 2
                have hfz50_3 := blk_frozen BK259.out 3
                go_wp2_with (first | (go_at_call 61; (with_reducible refine (horariumref09_bit.calls a0_0 x7_1 false _ A17.out).mono ?_); rintro e w' ⟨rfl, ⟨nd, rfl⟩⟩))
                go_roundg k1
                case measure => have := HK1.out; omega
                case rel => exact ⟨(false), (false), (wrap64 (x7_1 + 1)), (by first | rfl | (simp; done) | (simp [*]; done)), (by first | rfl | (simp; done) | (simp [*]; done)), (by first | rfl | (simp; done) | (simp [*]; done)), H', ⟨by have := HK1.out; omega⟩, ⟨by (with_reducible repeat (first | refine blk_drewN ?_ _ | refine blk_drew ?_ | refine blk_alloc ?_ _)); exact BK259.out⟩, ⟨by (with_reducible repeat (first | refine blk_drewN ?_ _ | refine blk_drew ?_ | refine blk_alloc ?_ _)); exact BK260.out⟩, ⟨by repeat (first | (with_reducible first | exact HB.out | apply below_alloc | apply pw_below_drewN | apply below_drew1 | refine below_set ?_ GE259.out | refine below_set ?_ GE260.out) | exact HB.out)⟩⟩
      · rw [if_neg c5] at H
        have c5b0 : decide (x7_1 < 32) = false := decide_eq_false c5
        clear c5
        replace H := Option.bind_eq_some_iff.mp H
        obtain ⟨t261, A510, H⟩ := H
        replace H : (if t261 = true then ((horariumref09_Tame.f a1_0 a1_1 a1_2 a1_3).bind fun t262 => (if t262 = true then (if x5_1 = true then (some x6_1) else (some false)) else (some false))) else (some false)) = some r := H
        have A51 := Aside0.mk A510
        clear A510
        by_cases c52 : t261 = true
        · subst c52
          have H1 : ((horariumref09_Tame.f a1_0 a1_1 a1_2 a1_3).bind fun t262 => (if t262 = true then (if x5_1 = true then (some x6_1) else (some false)) else (some false))) = some r := by rw [if_pos rfl] at H; exact H
          clear H
          have H := H1
          clear H1
          replace H := Option.bind_eq_some_iff.mp H
          obtain ⟨t262, A530, H⟩ := H
          replace H : (if t262 = true then (if x5_1 = true then (some x6_1) else (some false)) else (some false)) = some r := H
          have A53 := Aside0.mk A530
          clear A530
          by_cases c54 : t262 = true
          · subst c54
            have H1 : (if x5_1 = true then (some x6_1) else (some false)) = some r := by rw [if_pos rfl] at H; exact H
            clear H
            have H := H1
            clear H1
            by_cases c55 : x5_1 = true
            · subst c55
              have H1 : (some x6_1) = some r := by rw [if_pos rfl] at H; exact H
              clear H
              have H := H1
              clear H1
              obtain rfl := Option.some.inj H
              have hnb56 := NB259_260.out
              have hnc56 := NB260_259.out
              have hcz57_0 : wr.cell? ⟨gb259, 0, none⟩ = some (.int .u32 a0_0) := (blk_cell BK259.out 0).trans rfl
              have hcz57_1 : wr.cell? ⟨gb259, 1, none⟩ = some (.int .u8 a0_1) := (blk_cell BK259.out 1).trans rfl
              have hcz57_2 : wr.cell? ⟨gb259, 2, none⟩ = some (.int .i64 a0_2) := (blk_cell BK259.out 2).trans rfl
              have hcz57_3 : wr.cell? ⟨gb259, 3, none⟩ = some (.int .i64 a0_3) := (blk_cell BK259.out 3).trans rfl
              have hfz57_0 := blk_frozen BK259.out 0
              have hfz57_1 := blk_frozen BK259.out 1
              have hfz57_2 := blk_frozen BK259.out 2
              have hfz57_3 := blk_frozen BK259.out 3
              go_wp2_with (first | ((with_reducible refine gate_callee (f := 62) rfl ?_); refine goesL_ (some 45) rfl rfl Try.func62 (by kernel_rfl) rfl #[.agg #[.int .u32 a0_0, .int .u8 a0_1, .int .i64 a0_2, .int .i64 a0_3]] rfl (by (try simp only [List.map_toArray, List.map_cons, List.map_nil]); first | done | rfl | (simp only [List.length_drop, List.length_take]; rfl)) ?_; (with_reducible refine (horariumref09_Tame.calls a0_0 a0_1 a0_2 a0_3 true _ A51.out).mono ?_); rintro e w58 ⟨rfl, hb⟩; refine ⟨_, rfl, ?_⟩; have n0_ := Aside0.mk (blk_below (g := gb259) (o := .cells #[.int .u32 a0_0, .int .u8 a0_1, .int .i64 a0_2, .int .i64 a0_3] 27 (0, 0)) (by (with_reducible repeat (first | refine blk_drewN ?_ _ | refine blk_drew ?_ | refine blk_alloc ?_ _)); exact BK259.out) hb); have n1_ := Aside0.mk (blk_below (g := gb260) (o := .cells #[.int .u32 a1_0, .int .u8 a1_1, .int .i64 a1_2, .int .i64 a1_3] 27 (0, 0)) (by (with_reducible repeat (first | refine blk_drewN ?_ _ | refine blk_drew ?_ | refine blk_alloc ?_ _)); exact BK260.out) hb); have n2_ := Aside0.mk (below_step (by repeat (first | (with_reducible first | exact HB.out | apply below_alloc | apply pw_below_drewN | apply below_drew1 | refine below_set ?_ GE259.out | refine below_set ?_ GE260.out) | exact HB.out)) hb); clear BK259; clear BK260; clear HB; have BK259 := n0_; have BK260 := n1_; have HB := n2_; clear n0_ n1_ n2_; (try clear hb); (try clear hb2); (try clear hk); (try clear hi); have hcz59_0 : w58.cell? ⟨gb260, 0, none⟩ = some (.int .u32 a1_0) := (blk_cell BK260.out 0).trans rfl; have hcz59_1 : w58.cell? ⟨gb260, 1, none⟩ = some (.int .u8 a1_1) := (blk_cell BK260.out 1).trans rfl; have hcz59_2 : w58.cell? ⟨gb260, 2, none⟩ = some (.int .i64 a1_2) := (blk_cell BK260.out 2).trans rfl; have hcz59_3 : w58.cell? ⟨gb260, 3, none⟩ = some (.int .i64 a1_3) := (blk_cell BK260.out 3).trans rfl; have hfz59_0 := blk_frozen BK260.out 0; have hfz59_1 := blk_frozen BK260.out 1; have hfz59_2 := blk_frozen BK260.out 2; have hfz59_3 := blk_frozen BK260.out 3) | (go_at_call 62; (with_reducible refine (horariumref09_Tame.calls a1_0 a1_1 a1_2 a1_3 true _ A53.out).mono ?_); rintro e w60 ⟨rfl, hb⟩; have n0_ := Aside0.mk (blk_below (g := gb259) (o := .cells #[.int .u32 a0_0, .int .u8 a0_1, .int .i64 a0_2, .int .i64 a0_3] 27 (0, 0)) (by (with_reducible repeat (first | refine blk_drewN ?_ _ | refine blk_drew ?_ | refine blk_alloc ?_ _)); exact BK259.out) hb); have n1_ := Aside0.mk (blk_below (g := gb260) (o := .cells #[.int .u32 a1_0, .int .u8 a1_1, .int .i64 a1_2, .int .i64 a1_3] 27 (0, 0)) (by (with_reducible repeat (first | refine blk_drewN ?_ _ | refine blk_drew ?_ | refine blk_alloc ?_ _)); exact BK260.out) hb); have n2_ := Aside0.mk (below_step (by repeat (first | (with_reducible first | exact HB.out | apply below_alloc | apply pw_below_drewN | apply below_drew1 | refine below_set ?_ GE259.out | refine below_set ?_ GE260.out) | exact HB.out)) hb); clear BK259; clear BK260; clear HB; have BK259 := n0_; have BK260 := n1_; have HB := n2_; clear n0_ n1_ n2_; (try clear hb); (try clear hb2); (try clear hk); (try clear hi)))
              go_ret
              exact ⟨by first | rfl | (simp [errW_none, errW_some] <;> rfl) | (simp [*, errW_none, errW_some] <;> rfl), by repeat (first | (with_reducible first | exact HB.out | apply below_alloc | apply pw_below_drewN | apply below_drew1 | refine below_set ?_ GE259.out | refine below_set ?_ GE260.out) | exact HB.out)⟩
            · replace c55 := Bool.eq_false_iff.mpr c55
              subst c55
              have H1 : (some false) = some r := by rw [if_neg (show ¬ (false = true) by decide)] at H; exact H
              clear H
              have H := H1
              clear H1
              obtain rfl := Option.some.inj H
              have hnb61 := NB259_260.out
              have hnc61 := NB260_259.out
              have hcz62_0 : wr.cell? ⟨gb259, 0, none⟩ = some (.int .u32 a0_0) := (blk_cell BK259.out 0).trans rfl
              have hcz62_1 : wr.cell? ⟨gb259, 1, none⟩ = some (.int .u8 a0_1) := (blk_cell BK259.out 1).trans rfl
              have hcz62_2 : wr.cell? ⟨gb259, 2, none⟩ = some (.int .i64 a0_2) := (blk_cell BK259.out 2).trans rfl
              have hcz62_3 : wr.cell? ⟨gb259, 3, none⟩ = some (.int .i64 a0_3) := (blk_cell BK259.out 3).trans rfl
              have hfz62_0 := blk_frozen BK259.out 0
              have hfz62_1 := blk_frozen BK259.out 1
              have hfz62_2 := blk_frozen BK259.out 2
              have hfz62_3 := blk_frozen BK259.out 3
              go_wp2_with (first | ((with_reducible refine gate_callee (f := 62) rfl ?_); refine goesL_ (some 45) rfl rfl Try.func62 (by kernel_rfl) rfl #[.agg #[.int .u32 a0_0, .int .u8 a0_1, .int .i64 a0_2, .int .i64 a0_3]] rfl (by (try simp only [List.map_toArray, List.map_cons, List.map_nil]); first | done | rfl | (simp only [List.length_drop, List.length_take]; rfl)) ?_; (with_reducible refine (horariumref09_Tame.calls a0_0 a0_1 a0_2 a0_3 true _ A51.out).mono ?_); rintro e w63 ⟨rfl, hb⟩; refine ⟨_, rfl, ?_⟩; have n0_ := Aside0.mk (blk_below (g := gb259) (o := .cells #[.int .u32 a0_0, .int .u8 a0_1, .int .i64 a0_2, .int .i64 a0_3] 27 (0, 0)) (by (with_reducible repeat (first | refine blk_drewN ?_ _ | refine blk_drew ?_ | refine blk_alloc ?_ _)); exact BK259.out) hb); have n1_ := Aside0.mk (blk_below (g := gb260) (o := .cells #[.int .u32 a1_0, .int .u8 a1_1, .int .i64 a1_2, .int .i64 a1_3] 27 (0, 0)) (by (with_reducible repeat (first | refine blk_drewN ?_ _ | refine blk_drew ?_ | refine blk_alloc ?_ _)); exact BK260.out) hb); have n2_ := Aside0.mk (below_step (by repeat (first | (with_reducible first | exact HB.out | apply below_alloc | apply pw_below_drewN | apply below_drew1 | refine below_set ?_ GE259.out | refine below_set ?_ GE260.out) | exact HB.out)) hb); clear BK259; clear BK260; clear HB; have BK259 := n0_; have BK260 := n1_; have HB := n2_; clear n0_ n1_ n2_; (try clear hb); (try clear hb2); (try clear hk); (try clear hi); have hcz64_0 : w63.cell? ⟨gb260, 0, none⟩ = some (.int .u32 a1_0) := (blk_cell BK260.out 0).trans rfl; have hcz64_1 : w63.cell? ⟨gb260, 1, none⟩ = some (.int .u8 a1_1) := (blk_cell BK260.out 1).trans rfl; have hcz64_2 : w63.cell? ⟨gb260, 2, none⟩ = some (.int .i64 a1_2) := (blk_cell BK260.out 2).trans rfl; have hcz64_3 : w63.cell? ⟨gb260, 3, none⟩ = some (.int .i64 a1_3) := (blk_cell BK260.out 3).trans rfl; have hfz64_0 := blk_frozen BK260.out 0; have hfz64_1 := blk_frozen BK260.out 1; have hfz64_2 := blk_frozen BK260.out 2; have hfz64_3 := blk_frozen BK260.out 3) | (go_at_call 62; (with_reducible refine (horariumref09_Tame.calls a1_0 a1_1 a1_2 a1_3 true _ A53.out).mono ?_); rintro e w65 ⟨rfl, hb⟩; have n0_ := Aside0.mk (blk_below (g := gb259) (o := .cells #[.int .u32 a0_0, .int .u8 a0_1, .int .i64 a0_2, .int .i64 a0_3] 27 (0, 0)) (by (with_reducible repeat (first | refine blk_drewN ?_ _ | refine blk_drew ?_ | refine blk_alloc ?_ _)); exact BK259.out) hb); have n1_ := Aside0.mk (blk_below (g := gb260) (o := .cells #[.int .u32 a1_0, .int .u8 a1_1, .int .i64 a1_2, .int .i64 a1_3] 27 (0, 0)) (by (with_reducible repeat (first | refine blk_drewN ?_ _ | refine blk_drew ?_ | refine blk_alloc ?_ _)); exact BK260.out) hb); have n2_ := Aside0.mk (below_step (by repeat (first | (with_reducible first | exact HB.out | apply below_alloc | apply pw_below_drewN | apply below_drew1 | refine below_set ?_ GE259.out | refine below_set ?_ GE260.out) | exact HB.out)) hb); clear BK259; clear BK260; clear HB; have BK259 := n0_; have BK260 := n1_; have HB := n2_; clear n0_ n1_ n2_; (try clear hb); (try clear hb2); (try clear hk); (try clear hi)))
              go_ret
              exact ⟨by first | rfl | (simp [errW_none, errW_some] <;> rfl) | (simp [*, errW_none, errW_some] <;> rfl), by repeat (first | (with_reducible first | exact HB.out | apply below_alloc | apply pw_below_drewN | apply below_drew1 | refine below_set ?_ GE259.out | refine below_set ?_ GE260.out) | exact HB.out)⟩
          · replace c54 := Bool.eq_false_iff.mpr c54
            subst c54
            have H1 : (some false) = some r := by rw [if_neg (show ¬ (false = true) by decide)] at H; exact H
            clear H
            have H := H1
            clear H1
            obtain rfl := Option.some.inj H
            have hnb66 := NB259_260.out
            have hnc66 := NB260_259.out
            have hcz67_0 : wr.cell? ⟨gb259, 0, none⟩ = some (.int .u32 a0_0) := (blk_cell BK259.out 0).trans rfl
            have hcz67_1 : wr.cell? ⟨gb259, 1, none⟩ = some (.int .u8 a0_1) := (blk_cell BK259.out 1).trans rfl
            have hcz67_2 : wr.cell? ⟨gb259, 2, none⟩ = some (.int .i64 a0_2) := (blk_cell BK259.out 2).trans rfl
            have hcz67_3 : wr.cell? ⟨gb259, 3, none⟩ = some (.int .i64 a0_3) := (blk_cell BK259.out 3).trans rfl
            have hfz67_0 := blk_frozen BK259.out 0
            have hfz67_1 := blk_frozen BK259.out 1
            have hfz67_2 := blk_frozen BK259.out 2
            have hfz67_3 := blk_frozen BK259.out 3
            go_wp2_with (first | ((with_reducible refine gate_callee (f := 62) rfl ?_); refine goesL_ (some 45) rfl rfl Try.func62 (by kernel_rfl) rfl #[.agg #[.int .u32 a0_0, .int .u8 a0_1, .int .i64 a0_2, .int .i64 a0_3]] rfl (by (try simp only [List.map_toArray, List.map_cons, List.map_nil]); first | done | rfl | (simp only [List.length_drop, List.length_take]; rfl)) ?_; (with_reducible refine (horariumref09_Tame.calls a0_0 a0_1 a0_2 a0_3 true _ A51.out).mono ?_); rintro e w68 ⟨rfl, hb⟩; refine ⟨_, rfl, ?_⟩; have n0_ := Aside0.mk (blk_below (g := gb259) (o := .cells #[.int .u32 a0_0, .int .u8 a0_1, .int .i64 a0_2, .int .i64 a0_3] 27 (0, 0)) (by (with_reducible repeat (first | refine blk_drewN ?_ _ | refine blk_drew ?_ | refine blk_alloc ?_ _)); exact BK259.out) hb); have n1_ := Aside0.mk (blk_below (g := gb260) (o := .cells #[.int .u32 a1_0, .int .u8 a1_1, .int .i64 a1_2, .int .i64 a1_3] 27 (0, 0)) (by (with_reducible repeat (first | refine blk_drewN ?_ _ | refine blk_drew ?_ | refine blk_alloc ?_ _)); exact BK260.out) hb); have n2_ := Aside0.mk (below_step (by repeat (first | (with_reducible first | exact HB.out | apply below_alloc | apply pw_below_drewN | apply below_drew1 | refine below_set ?_ GE259.out | refine below_set ?_ GE260.out) | exact HB.out)) hb); clear BK259; clear BK260; clear HB; have BK259 := n0_; have BK260 := n1_; have HB := n2_; clear n0_ n1_ n2_; (try clear hb); (try clear hb2); (try clear hk); (try clear hi); have hcz69_0 : w68.cell? ⟨gb260, 0, none⟩ = some (.int .u32 a1_0) := (blk_cell BK260.out 0).trans rfl; have hcz69_1 : w68.cell? ⟨gb260, 1, none⟩ = some (.int .u8 a1_1) := (blk_cell BK260.out 1).trans rfl; have hcz69_2 : w68.cell? ⟨gb260, 2, none⟩ = some (.int .i64 a1_2) := (blk_cell BK260.out 2).trans rfl; have hcz69_3 : w68.cell? ⟨gb260, 3, none⟩ = some (.int .i64 a1_3) := (blk_cell BK260.out 3).trans rfl; have hfz69_0 := blk_frozen BK260.out 0; have hfz69_1 := blk_frozen BK260.out 1; have hfz69_2 := blk_frozen BK260.out 2; have hfz69_3 := blk_frozen BK260.out 3) | (go_at_call 62; (with_reducible refine (horariumref09_Tame.calls a1_0 a1_1 a1_2 a1_3 false _ A53.out).mono ?_); rintro e w70 ⟨rfl, hb⟩; have n0_ := Aside0.mk (blk_below (g := gb259) (o := .cells #[.int .u32 a0_0, .int .u8 a0_1, .int .i64 a0_2, .int .i64 a0_3] 27 (0, 0)) (by (with_reducible repeat (first | refine blk_drewN ?_ _ | refine blk_drew ?_ | refine blk_alloc ?_ _)); exact BK259.out) hb); have n1_ := Aside0.mk (blk_below (g := gb260) (o := .cells #[.int .u32 a1_0, .int .u8 a1_1, .int .i64 a1_2, .int .i64 a1_3] 27 (0, 0)) (by (with_reducible repeat (first | refine blk_drewN ?_ _ | refine blk_drew ?_ | refine blk_alloc ?_ _)); exact BK260.out) hb); have n2_ := Aside0.mk (below_step (by repeat (first | (with_reducible first | exact HB.out | apply below_alloc | apply pw_below_drewN | apply below_drew1 | refine below_set ?_ GE259.out | refine below_set ?_ GE260.out) | exact HB.out)) hb); clear BK259; clear BK260; clear HB; have BK259 := n0_; have BK260 := n1_; have HB := n2_; clear n0_ n1_ n2_; (try clear hb); (try clear hb2); (try clear hk); (try clear hi)))
            go_ret
            exact ⟨by first | rfl | (simp [errW_none, errW_some] <;> rfl) | (simp [*, errW_none, errW_some] <;> rfl), by repeat (first | (with_reducible first | exact HB.out | apply below_alloc | apply pw_below_drewN | apply below_drew1 | refine below_set ?_ GE259.out | refine below_set ?_ GE260.out) | exact HB.out)⟩
        · replace c52 := Bool.eq_false_iff.mpr c52
          subst c52
          have H1 : (some false) = some r := by rw [if_neg (show ¬ (false = true) by decide)] at H; exact H
          clear H
          have H := H1
          clear H1
          obtain rfl := Option.some.inj H
          have hnb71 := NB259_260.out
          have hnc71 := NB260_259.out
          have hcz72_0 : wr.cell? ⟨gb259, 0, none⟩ = some (.int .u32 a0_0) := (blk_cell BK259.out 0).trans rfl
          have hcz72_1 : wr.cell? ⟨gb259, 1, none⟩ = some (.int .u8 a0_1) := (blk_cell BK259.out 1).trans rfl
          have hcz72_2 : wr.cell? ⟨gb259, 2, none⟩ = some (.int .i64 a0_2) := (blk_cell BK259.out 2).trans rfl
          have hcz72_3 : wr.cell? ⟨gb259, 3, none⟩ = some (.int .i64 a0_3) := (blk_cell BK259.out 3).trans rfl
          have hfz72_0 := blk_frozen BK259.out 0
          have hfz72_1 := blk_frozen BK259.out 1
          have hfz72_2 := blk_frozen BK259.out 2
          have hfz72_3 := blk_frozen BK259.out 3
          go_wp2_with (first | ((with_reducible refine gate_callee (f := 62) rfl ?_); refine goesL_ (some 45) rfl rfl Try.func62 (by kernel_rfl) rfl #[.agg #[.int .u32 a0_0, .int .u8 a0_1, .int .i64 a0_2, .int .i64 a0_3]] rfl (by (try simp only [List.map_toArray, List.map_cons, List.map_nil]); first | done | rfl | (simp only [List.length_drop, List.length_take]; rfl)) ?_; (with_reducible refine (horariumref09_Tame.calls a0_0 a0_1 a0_2 a0_3 false _ A51.out).mono ?_); rintro e w73 ⟨rfl, hb⟩; refine ⟨_, rfl, ?_⟩; have n0_ := Aside0.mk (blk_below (g := gb259) (o := .cells #[.int .u32 a0_0, .int .u8 a0_1, .int .i64 a0_2, .int .i64 a0_3] 27 (0, 0)) (by (with_reducible repeat (first | refine blk_drewN ?_ _ | refine blk_drew ?_ | refine blk_alloc ?_ _)); exact BK259.out) hb); have n1_ := Aside0.mk (blk_below (g := gb260) (o := .cells #[.int .u32 a1_0, .int .u8 a1_1, .int .i64 a1_2, .int .i64 a1_3] 27 (0, 0)) (by (with_reducible repeat (first | refine blk_drewN ?_ _ | refine blk_drew ?_ | refine blk_alloc ?_ _)); exact BK260.out) hb); have n2_ := Aside0.mk (below_step (by repeat (first | (with_reducible first | exact HB.out | apply below_alloc | apply pw_below_drewN | apply below_drew1 | refine below_set ?_ GE259.out | refine below_set ?_ GE260.out) | exact HB.out)) hb); clear BK259; clear BK260; clear HB; have BK259 := n0_; have BK260 := n1_; have HB := n2_; clear n0_ n1_ n2_; (try clear hb); (try clear hb2); (try clear hk); (try clear hi)))
          go_ret
          exact ⟨by first | rfl | (simp [errW_none, errW_some] <;> rfl) | (simp [*, errW_none, errW_some] <;> rfl), by repeat (first | (with_reducible first | exact HB.out | apply below_alloc | apply pw_below_drewN | apply below_drew1 | refine below_set ?_ GE259.out | refine below_set ?_ GE260.out) | exact HB.out)⟩

end Go.Proofs.Ytcdcocnljnlkfaa.Q
